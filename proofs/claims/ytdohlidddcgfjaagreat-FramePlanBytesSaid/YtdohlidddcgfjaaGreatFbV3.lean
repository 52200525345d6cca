/- bR of this claim: W33, W34, W35, W36, W37, W38, W39, W40, W48, W50, W51, W41, W42, W43, W21, W27, W45, W46, W47, W52, W53, W56, W57, W64. -/
import Derived.Test.YtdohlidddcgfjaaGreatFbV2
import Derived.Lib.Bytealg
import Derived.Maps.Range
import Derived.Laws.IdiomRangeMap
import Derived.Test.YtdohlidddcgfjaaGreatFbV1
import Derived.Laws.BytesString
import Derived.Below
import Derived.ProofKit
import Derived.OpenShut
import Derived.LaidMore
import Derived.Laws.Externs
set_option linter.all false
namespace Go.Proofs.YtdohlidddcgfjaaGreat
open Go

def uI(N:Nat):List Nat->List Oper->Bool
 |_,[]=>true
 |seen,o::rest=>match o.dst with
  |some aN=>Nat.blt aN N&& !(seen.any (Nat.beq aN))&&uI N (aN::seen) rest
  |none=>uI N seen rest
variable{N:Fr}{β:Type}{aN:Nat}{j:IntKind}{o:Oper}{p:Operand}{q:Rp β}
def zD{N:Nat}(l:List Oper): ∀(seen:List Nat),uI N seen l=true->
  (∀o:Oper,o∈l-> ∀aN,o.dst=some aN->aN<N/\aN∉seen)/\ ∀(i j:Nat) (o p:Oper) (aN:Nat),l[i]? =some o->l[j]? =some p->o.dst=some aN->p.dst=some aN->i=j:=by
 induction l with
 |nil=>exact fun _ _=>⟨fun _ h=>(by cases h),fun _ _ _ _ _ h=>(by simp at h)⟩
 |cons o l ih=>
  intro seen h
  unfold uI at h
  cases hd:o.dst with
  |none=>
   rw [hd]at h
   obtain⟨Y,H⟩:=ih seen h
   refine⟨fun q hq aN hqd=>?_,fun i j p q aN hi hj hp hq=>?_⟩
   ·rcases jy.1 hq with rfl|hq
    ·rw [hd]at hqd;cases hqd
    ·exact Y q hq aN hqd
   ·cases i with
    |zero=>simp at hi;subst hi;rw [hd]at hp;cases hp
    |succ i=>
     cases j with
     |zero=>simp at hj;subst hj;rw [hd]at hq;cases hq
     |succ j=>rw [H i j p q aN (by simpa using hi) (by simpa using hj) hp hq]
  |some d0=>
   rw [hd]at h
   simp only [iO,r0,Cm]at h
   obtain⟨⟨g1,g2⟩,g3⟩:=h
   obtain⟨Y,H⟩:=ih (d0::seen) g3
   have hns:d0∉seen:=fun hm=>by
    have:seen.any (Nat.beq d0)=true:=Aw.2 ⟨d0,hm,Nat.beq_refl d0⟩
    rw [this]at g2;cases g2
   refine⟨fun q hq aN hqd=>?_,fun i j p q aN hi hj hp hq=>?_⟩
   ·rcases jy.1 hq with rfl|hq
    ·rw [hd]at hqd;cases hqd;exact⟨g1,hns⟩
    ·obtain⟨k1,k2⟩:=Y q hq aN hqd
     exact⟨k1,fun hm=>k2 (o8 _ hm)⟩
   ·cases i with
    |zero=>
     cases j with
     |zero=>rfl
     |succ j=>
      simp at hi;subst hi
      rw [hd]at hp;cases hp
      exact absurd (nV ..) (Y q (rm (by simpa using hj)) d0 hq).2
    |succ i=>
     cases j with
     |zero=>
      simp at hj;subst hj
      rw [hd]at hq;cases hq
      exact absurd (nV ..) (Y p (rm (by simpa using hi)) d0 hp).2
     |succ j=>rw [H i j p q aN (by simpa using hi) (by simpa using hj) hp hq]
def F5:List Oper->List Ty->kN->kN
 |o::l,t::ts,G=>match o.dst with
  |some aN=>(aN,t)::F5 l ts G
  |none=>F5 l ts G
 |_,_,G=>G
variable{G:kN}{e:TypeId}{k:IntKind}{t:Ty}{ts:List Ty}{u:Ty}
def Dz(l:List Oper): ∀(ts:List Ty) (k:Nat) (t:Ty),ts.length=l.length->b8 (F5 l ts G) k=some t->
  (∃(j:Nat) (o:Oper),l[j]? =some o/\o.dst=some k/\ts[j]? =some t)\/(b8 G k=some t/\ ∀o:Oper,o∈l->o.dst≠some k):=by
 induction l with
 |nil=>
  intro ts k t hl h
  have:ts=[]:=sd (by simpa using hl)
  subst this
  exact .inr ⟨h,fun _ h=>(by cases h)⟩
 |cons o l ih=>
  intro ts k t hl h
  cases ts with
  |nil=>simp at hl
  |cons u ts=>
   unfold F5 at h
   have hl' :ts.length=l.length:=by simpa using hl
   have lift:((∃(j:Nat) (p:Oper),l[j]? =some p/\p.dst=some k/\ts[j]? =some t)\/(b8 G k=some t/\ ∀p:Oper,p∈l->p.dst≠some k))->o.dst≠some k->
     (∃(j:Nat) (p:Oper),(o::l)[j]? =some p/\p.dst=some k/\(u::ts)[j]? =some t)\/(b8 G k=some t/\ ∀p:Oper,p∈o::l->p.dst≠some k):=by
    rintro(⟨j,p,Y,H,Q⟩|⟨Y,H⟩) hne
    ·exact .inl ⟨j+1,p,by simpa using Y,H,by simpa using Q⟩
    ·exact .inr ⟨Y,fun p hp=>(jy.1 hp).elim (fun e=>by subst e;exact hne) (H p)⟩
   cases hd:o.dst with
   |none=>
    rw [hd]at h
    exact lift (ih ts k t hl' h) (by rw [hd];exact fun e=>by cases e)
   |some aN=>
    rw [hd]at h
    simp only at h
    unfold b8 at h
    by_cases W:Nat.beq aN k=true
    ·rw [W]at h
     have:=nk W
     subst this
     have e:u=t:=by simpa using h
     subst e
     exact .inl ⟨0,o,rfl,hd,rfl⟩
    ·rw [yH]at W
     rw [W]at h
     refine lift (ih ts k t hl' h) ?_
     rw [hd]
     intro e
     have:aN=k:=oy e
     subst this
     simp at W
abbrev TS:=List Nat×(List OI->Ty)
def TS.at(p:TS)(σ:Nat->OI):Ty:=p.2 (p.1.map σ)
def tc(t:Ty):TS:=([],fun _=>t)
def LN(Ss:List ((Nat->OI)->List OE))(c:Nat)(σ:Nat->OI):List OE:=match Ss[c]? with|some f=>f σ|none=>[]
structure NS where
 slot:Nat
 ty:(Nat->OI)->Ty
 src:Option Nat
def NS.at(n:NS)(σ:Nat->OI):Nd:=⟨n.slot,n.ty σ,n.src⟩
def PX(G:kN)(ts:List TS)(n:NS):Prop:=
 match n.src with
 |some j=> ∀σ,(ts[j]?).map (fun p=>p.at σ)=some (n.ty σ)
 |none=> ∀σ,b8 G n.slot=some (n.ty σ)
def uh(G:kN)(ts:List TS):List NS->Prop
 |[]=>True
 |n::l=>PX G ts n/\uh G ts l
variable{n:Nat}
def uh.mem{ts:List TS}: ∀{l:List NS},uh G ts l-> ∀n∈l,PX G ts n
 |_::_,⟨h,_⟩,_,.head _=>h
 |_::_,⟨_,h⟩,_,.tail _ hm=>uh.mem h _ hm
def ue(l:List NS)(σ:Nat->OI):kN:=iD (l.map (·.at σ))
def NY(ts:List TS)(σ:Nat->OI):List Ty:=ts.map fun p=>p.at σ
def Lr(L:List Oper)(es:List Bool)(i:Nat)(p:TS):Bool:=p.1.all fun k=>(es[k]?).getD false&&(Nat.beq k i||mo L L.length i k)
def QX(L:List Oper)(es:List Bool)(i lo hi:Nat):Bool:=
 Nat.ble lo (fW es es.length)&&(List.range es.length).all fun k=> !((es[k]?).getD false)||((Nat.ble lo (fW es k)||mo L L.length i k)&&(Nat.blt (fW es k) hi||mo L L.length k i))
def DS(E:En)(G:kN)(L:List Oper)(ts:List TS)(Ss:List ((Nat->OI)->List OE))(es0:List Bool):Nat->Nat->List Oper->List Bool->Prop
 |_,_,[],_=>True
 |i,c,o::rest,false::es=>(∃(needs:List NS) (t:TS) (lo hi:Nat),ts[i]? =some t/\uh G ts needs/\(needs.all fun n=>nm L o i (n.at fun _=>j8))=true/\dK i o=true/\Lr L es0 i t=true/\QX L es0 i lo hi=true/\o.dst.isSome=true/\
   ∀c σ,lo<=c->c<=hi->co E (LN Ss c σ) L.toArray (ue needs σ) o (t.at σ))/\DS E G L ts Ss es0 (i+1) c rest es
 |i,c,o::rest,true::es=>(∃(needs:List NS) (t:TS),ts[i]? =some t/\uh G ts needs/\(needs.all fun n=>nm L o i (n.at fun _=>j8))=true/\dK i o=true/\Lr L es0 i t=true/\
   ∀σ,lx E L.toArray (LN Ss c σ) (ue needs σ) o (fun x=>LN Ss (c+1) (Kp σ i x)) (fun x=>t.at (Kp σ i x)))/\DS E G L ts Ss es0 (i+1) (c+1) rest es
 |_,_,_::_,[]=>False
variable{E:En}{L:List Oper}{Ss:List ((Nat->OI)->List OE)}{c:Nat}{es:List Bool}{lo:Int}{α:Type}{r:Rp α}{x:Nat}{σ:Nat->OI}
def DS.get{ts:List TS}{es0:List Bool}: ∀(r:List Oper) (es:List Bool) (k c:Nat),DS E G L ts Ss es0 k c r es-> ∀(j:Nat) (o:Oper),r[j]? =some o->
    ∃e,es[j]? =some e/\ ∃(needs:List NS) (t:TS),ts[k+j]? =some t/\uh G ts needs/\(needs.all fun n=>nm L o (k+j) (n.at fun _=>j8))=true/\dK (k+j) o=true/\Lr L es0 (k+j) t=true/\
      (match e with
       |false=>o.dst.isSome=true/\ ∃lo hi,QX L es0 (k+j) lo hi=true/\ ∀c σ,lo<=c->c<=hi->co E (LN Ss c σ) L.toArray (ue needs σ) o (t.at σ)
       |true=> ∀σ,lx E L.toArray (LN Ss (c+fW es j) σ) (ue needs σ) o (fun x=>LN Ss (c+fW es j+1) (Kp σ (k+j) x)) (fun x=>t.at (Kp σ (k+j) x))):=by
  intro r
  induction r with
  |nil=>intro es k c _ j o h;simp at h
  |cons p r ih=>
    intro es k c h j o ho
    cases es with
    |nil=>exact h.elim
    |cons e es=>
      cases e with
      |false=>
        obtain⟨⟨needs,t,lo,hi,g1,g2,g3,g4,g5,g6,g7,g8⟩,H⟩:=h
        cases j with
        |zero=>
          simp at ho;subst ho
          exact⟨false,rfl,needs,t,g1,g2,g3,g4,g5,g7,lo,hi,g6,g8⟩
        |succ j=>
          obtain⟨e',g1,g2⟩:=ih es (k+1) _ H j o (by simpa using ho)
          refine⟨e',by simpa using g1,?_⟩
          rw [show k+1+j=k+(j+1)from by omega]at g2
          have e1:c+fW (false::es) (j+1)=c+fW es j:=by simp [fW]
          rw [e1];exact g2
      |true=>
        obtain⟨Y,H⟩:=h
        cases j with
        |zero=>
          simp at ho;subst ho
          exact⟨true,rfl,Y⟩
        |succ j=>
          obtain⟨e',g1,g2⟩:=ih es (k+1) _ H j o (by simpa using ho)
          refine⟨e',by simpa using g1,?_⟩
          rw [show k+1+j=k+(j+1)from by omega]at g2
          have e1:c+fW (true::es) (j+1)=c+1+fW es j:=by simp [fW];omega
          rw [e1];exact g2
structure QI(E:En)(G:kN)(l:List Oper)(ts:List TS)(Ss:List ((Nat->OI)->List OE))(es:List Bool)(done:Array Bool)(a:Act)(w:World)(S:SH)(σ:Nat->OI)(c:Nat):Prop where
 ext:jc E.B E.w0 E.S0 w S
 sat:kV w S
 own:dL E.base E.B w S (LN Ss c σ)
 size:a.tmps.size=E.N.n
 defers:a.defers=E.N.ds
 dsz:done.size=l.length
 down: ∀j o,l[j]? =some o->done.getD j false=true-> ∀e∈o.after,Region.binds .any e=true->done.getD e.on false=true
 old: ∀k t,b8 G k=some t->(∀j o,l[j]? =some o->done.getD j false=true->o.dst≠some k)->t.p S (a.tmps.getD k undef)
 new: ∀j o aN p,l[j]? =some o->done.getD j false=true->o.dst=some aN->ts[j]? =some p->(p.at σ).p S (a.tmps.getD aN undef)
 deps: ∀j p,done.getD j false=true->ts[j]? =some p-> ∀k∈p.1,done.getD k false=true
 chain: ∀k,es[k]? =some true->(done.getD k false=true↔fW es k<c)
variable{A hg:Type}{S S' :SH}{a:Act}{b:Nat}{done:Array Bool}{ρ:Type}{f:hg->A->Option (ρ×hg)}{κ:Type}{m:List (κ×β)}{v:Value}{w w' :World}
section
variable{ts:List TS}
def QI.need(h:QI E G L ts Ss es done a w S σ c){i:Nat}(hi:L[i]? =some o)(hun:done.getD i true=false)(hwait: ∀e∈o.after,Region.binds .any e=true->done.getD e.on false=true){needs:List NS}(Y:uh G ts needs)(H:(needs.all fun n=>nm L o i (n.at fun _=>j8))=true):bR E.N S a (ue needs σ):=by
 have hlt:i<done.size:=by rw [h.dsz];exact(pZ.1 hi).1
 have hun' :done.getD i false=false:=by
  simp [hlt]at hun ⊢;exact hun
 refine⟨h.size,h.defers,?_⟩
 have key: ∀n∈needs,(n.ty σ).p S (a.tmps.getD n.slot undef):=by
  intro n hn
  have hs:=me.1 H n hn
  have ho:=Y.mem n hn
  unfold nm NS.at at hs
  unfold PX at ho
  cases hsrc:n.src with
  |some j=>
   rw [hsrc]at hs ho
   simp only [iO]at hs
   obtain⟨hs1,hs2⟩:=hs
   cases hj:L[j]? with
   |none=>rw [hj]at hs1;cases hs1
   |some p=>
    rw [hj]at hs1
    cases hd:p.dst with
    |none=>simp only [hd]at hs1;cases hs1
    |some aN=>
     simp only [hd]at hs1
     have hd' :=nk hs1
     subst hd'
     have hdone:done.getD j false=true:=by
      unfold zA at hs2
      obtain⟨e,he0,W⟩:=Aw.1 hs2
      have he:e∈o.after:=by simpa using he0
      simp only [iO]at W
      have:=hwait e he W.2
      rwa [nk W.1]at this
     have hm:=ho σ
     cases hf:ts[j]? with
     |none=>rw [hf]at hm;simp at hm
     |some f=>
      rw [hf]at hm
      have e:f.at σ=n.ty σ:=by simpa using hm
      rw [<-e]
      exact h.new j p n.slot f hj hdone hd hf
  |none=>
   rw [hsrc]at hs ho
   refine h.old _ _ (ho σ) fun j p hj hdone hd=>?_
   have:=me.1 hs p (rm hj)
   simp only [hd,Nat.beq_refl,qK,sy]at this
   unfold zA at this
   obtain⟨e,he0,W⟩:=Aw.1 this
   have he:e∈p.after:=by simpa using he0
   simp only [iO]at W
   have Q:=h.down j p hj hdone e he W.2
   rw [nk W.1]at Q
   rw [Q]at hun'
   cases hun'
 clear Y H
 intro k t hk
 unfold ue at hk
 induction needs with
 |nil=>simp [iD,b8]at hk
 |cons n needs ih=>
  simp only [AA]at hk
  unfold iD b8 at hk
  by_cases W:Nat.beq n.slot k=true
  ·have hb' :Nat.beq (n.at σ).slot k=true:=W
   rw [hb']at hk
   have:=nk W
   subst this
   have h9:some (n.at σ).ty=some t:=by simpa using hk
   have e:n.ty σ=t:=oy h9
   rw [<-e]
   exact key n (nV ..)
  ·rw [yH]at W
   have hb' :Nat.beq (n.at σ).slot k=false:=W
   rw [hb']at hk
   exact ih (fun m hm=>key m (o8 _ hm)) hk
def QI.step{σ' :Nat->OI}{c' :Nat}(h:QI E G L ts Ss es done a w S σ c){i:Nat}{p0:TS}{C:Nat->Prop}(hi:L[i]? =some o)(hdN: ∀aN,o.dst=some aN->aN<E.N.n)(hs2: ∀aN,o.dst=some aN-> ∀j p,L[j]? =some p->done.getD j false=true->p.dst=some aN->i=j)(hwait: ∀e∈o.after,Region.binds .any e=true->done.getD e.on false=true)(D:ts[i]? =some p0)(hun:done.getD i true=false)(hdep: ∀k∈p0.1,k=i\/done.getD k false=true)(hext:jc C w S w' S')(hC: ∀b,C b->E.base<=b\/E.B b)(hsat:kV w' S')(hown:dL E.base E.B w' S' (LN Ss c' σ'))(hσ: ∀k,k≠i->σ' k=σ k)(hv:(p0.at σ').p S' v)(hch: ∀k,es[k]? =some true->((done.setIfInBounds i true).getD k false=true↔fW es k<c')):
  QI E G L ts Ss es (done.setIfInBounds i true) (a.put o.dst v) w' S' σ' c' :=by
 have hlt:i<done.size:=by rw [h.dsz];exact(pZ.1 hi).1
 have hset: ∀j,(done.setIfInBounds i true).getD j false=true->j=i\/done.getD j false=true:=fun j hj=>by
  by_cases hij:i=j
  ·exact .inl hij.symm
  ·rw [ub false hij]at hj;exact .inr hj
 have hseti:(done.setIfInBounds i true).getD i false=true:=by simp [hlt]
 have hun' :done.getD i false=false:=by simp [hlt]at hun ⊢;exact hun
 have hput: ∀k,(∀aN,o.dst=some aN->aN≠k)->(a.put o.dst v).tmps.getD k undef=a.tmps.getD k undef:=fun k hk=>by
  cases hd:o.dst with
  |none=>rfl
  |some aN=>
   have hda:aN<a.tmps.size:=by rw [h.size];exact hdN aN hd
   rw [rA hda,aZ (hk aN hd)]
 refine⟨h.ext.step hext hC,hsat,hown,?_,?_,by simp [h.dsz],fun j p hj hdone e he W=>?_,fun k u hk hno=>?_,fun j p d' u hj hdone hd' hu=>?_,fun j u hj hu k hk=>?_,hch⟩
 ·cases o.dst with
  |none=>exact h.size
  |some aN=>simp [Act.put,h.size]
 ·cases o.dst with
  |none=>exact h.defers
  |some aN=>exact h.defers
 ·rcases hset j hdone with rfl|hj'
  ·rw [hi]at hj
   have:o=p:=by simpa using hj
   subst this
   exact vW (hwait e he W)
  ·exact vW (h.down j p hj hj' e he W)
 ·rw [hput k fun aN hd e=>hno i o hi hseti (by rw [hd,e])]
  exact u.mono hext.keep (h.old k u hk fun j p hj hdone=>hno j p hj (vW hdone))
 ·by_cases hij:j=i
  ·subst hij
   rw [hi]at hj
   have:o=p:=by simpa using hj
   subst this
   have hda:d' <a.tmps.size:=by rw [h.size];exact hdN d' hd'
   rw [hd',rA hda,bu rfl]
   rw [D]at hu
   have:p0=u:=by simpa using hu
   subst this
   exact hv
  ·have hj' :=(hset j hdone).resolve_left hij
   rw [hput d' fun aN hd e=>by subst e;exact hij (hs2 aN hd j p hj hj' hd').symm]
   have e1:u.at σ' =u.at σ:=congrArg u.2 (Fh fun k hk=>hσ k fun e=>by
     subst e
     rw [h.deps j u hj' hu k hk]at hun';cases hun')
   rw [e1]
   exact Ty.mono _ hext.keep (h.new j p d' u hj hj' hd' hu)
 ·rcases hset j hj with rfl|hj'
  ·rw [D]at hu
   have:p0=u:=by simpa using hu
   subst this
   rcases hdep k hk with rfl|h'
   ·exact hseti
   ·exact vW h'
  ·exact vW (h.deps j u hj' hu k hk)
end
variable{h3:Exit->Act->World->Prop}
def Fx{l t:List Oper}{ts:List TS}(hsl:uI E.N.n [] l=true)(hlen:ts.length=l.length)(hesl:es.length=l.length)(hd:DS E G (l++t) ts Ss es 0 0 l es)(hch:IU (l++t) es=true)(D:wm (l++t) l.length t.length=true)(hQ: ∀a w S σ,St E (LN Ss (fW es es.length) σ) (F5 l (NY ts σ) G) a w S->wpListIn (fw E.r) 0 E.P (l++t).toArray h3 t a w):
  ∀(fuel:Nat) (done:Array Bool) (a:Act) (w:World) (S:SH) (σ:Nat->OI) (c:Nat),kC done=fuel->(∀j,l.length<=j->done.getD j false=false)->c<=fW es es.length->QI E G (l++t) ts Ss es done a w S σ c->wpAnyIn (fw E.r) 0 E.P .any (l++t).toArray h3 fuel done a w:=by
 have hL1: ∀i o,i<l.length->(l++t)[i]? =some o->l[i]? =some o:=fun i o hi h=>by rwa [xv hi]at h
 have hL2: ∀i o,l[i]? =some o->(l++t)[i]? =some o:=fun i o h=>by rw [xv (pZ.1 h).1];exact h
 have htail: ∀m o,l.length<=m->(l++t)[m]? =some o->tU (l++t) m=true/\dK m o=true:=fun m o hm ho=>by
  have hml:m<(l++t).length:=(pZ.1 ho).1
  rw [kO]at hml
  unfold wm at D
  have:=me.1 D (m-l.length) (by simp;omega)
  rw [show l.length+(m-l.length)=m from by omega,ho]at this
  simp only [iO]at this
  exact⟨this.1,this.2.1⟩
 have hget:=fun i o (hi:l[i]? =some o)=>DS.get l es 0 0 hd i o hi
 have hedge: ∀i o,(l++t)[i]? =some o->dK i o=true:=fun i o hi=>by
  rcases m0 i l.length with h|h
  ·obtain⟨_,_,_,_,_,_,_,h,_⟩:=hget i o (hL1 i o h hi)
   simpa using h
  ·exact(htail i o h hi).2
 obtain⟨hs1,hs2⟩:=zD l [] hsl
 have fin: ∀fuel done a w S σ c,kC done=fuel->(∀j,l.length<=j->done.getD j false=false)->c<=fW es es.length->QI E G (l++t) ts Ss es done a w S σ c->(∀i,i<l.length->done.getD i false=true)->wpAnyIn (fw E.r) 0 E.P .any (l++t).toArray h3 fuel done a w:=by
  intro fuel done a w S σ c hu hfree hcle h hall
  have hcc:c=fW es es.length:=by
   rcases m0 c (fW es es.length)with hlt|hge
   ·obtain⟨i,Y,H,Q⟩:=tZ hlt
    have:=(h.chain i H).1 (hall i (by omega))
    omega
   ·omega
  subst hcc
  refine wH (n:=l.length) (fun m o hm ho=>(htail m o hm ho).1) hedge t l.length done fuel a w (jW _) (by simp) h.dsz (fun j hj=>⟨fun hjd=>?_,fun hlt=>hall j hlt⟩) hu
   (hQ a w S σ ⟨h.ext,h.sat,h.own,h.size,h.defers,fun j u hj=>?_⟩)
  ·rcases m0 j l.length with h' |h'
   ·exact h'
   ·rw [hfree j h']at hjd;cases hjd
  ·rcases Dz l (NY ts σ) j u (by unfold NY;rw [CQ];exact hlen) hj with⟨i,o,Y,H,Q⟩|⟨Y,H⟩
   ·unfold NY at Q
    rw [List.getElem?_map]at Q
    cases hf:ts[i]? with
    |none=>rw [hf]at Q;simp at Q
    |some f=>
     rw [hf]at Q
     have e:f.at σ=u:=by simpa using Q
     rw [<-e]
     exact h.new i o j f (hL2 i o Y) (hall i (pZ.1 Y).1) H hf
   ·refine h.old j u Y fun i o ho hdn=>?_
    rcases m0 i l.length with h' |h'
    ·exact H o (rm (hL1 i o h' ho))
    ·rw [hfree i h']at hdn;cases hdn
 have lower: ∀done a w S σ c i,(∀j,l.length<=j->done.getD j false=false)->QI E G (l++t) ts Ss es done a w S σ c->i∈Region.ready .any (l++t).toArray done->l.length<=i-> ∀j,j<l.length->done.getD j false=true:=by
  intro done a w S σ c i hfree h hi hge j hj
  obtain⟨hun,p,hp,hwait⟩:=qN.1 hi
  have hp' :(l++t)[i]? =some p:=by simpa using hp
  have hcov:=(htail i p hge hp').1
  unfold tU at hcov
  have hre:=me.1 hcov j (by simp;omega)
  exact fz h.down _ i j (fun q hq e he W=>by
   have:q=p:=by rw [hp']at hq;simpa using hq.symm
   subst this
   exact hwait e he W) hre
 have hchain: ∀i j,j<i->es[i]? =some true->es[j]? =some true->mo (l++t) (l++t).length i j=true:=fun i j hij Y H=>by
  unfold IU at hch
  have hil:i<es.length:=(pZ.1 Y).1
  have:=me.1 (me.1 hch i (by simpa using hil)) j (by simpa using hij)
  rw [Y,H]at this
  simpa using this
 intro fuel
 induction fuel with
 |zero=>
  intro done a w S σ c hu hfree hcle h
  exact fin 0 done a w S σ c hu hfree hcle h fun i hi=>ru hu (by rw [h.dsz,kO];omega)
 |succ fuel ih=>
  intro done a w S σ c hu hfree hcle h
  by_cases hall: ∀i,i<l.length->done.getD i false=true
  ·exact fin _ done a w S σ c hu hfree hcle h hall
  have hready0: ∀m i,i<m->i<l.length->Region.ready .any (l++t).toArray done=[]->done.getD i false=true:=by
   intro m
   induction m with
   |zero=>intro i h;omega
   |succ m ihm=>
    intro i him hil hr
    have his:i<done.size:=by rw [h.dsz,kO];omega
    by_cases hdn:done.getD i true=true
    ·rw [<-m9 his];exact hdn
    ·exfalso
     obtain⟨o,ho⟩: ∃o,(l++t)[i]? =some o:=⟨l[i],hL2 i _ (sx hil)⟩
     have hmem:i∈Region.ready .any (l++t).toArray done:=by
      rw [qN]
      refine⟨by simpa using hdn,o,by simpa using ho,fun e he W=>?_⟩
      have:=hedge i o ho
      unfold dK at this
      have:=me.1 this e (by simpa using he)
      simp only [W,qK,sy,r0]at this
      exact ihm e.on (by omega) (by omega) hr
     rw [hr]at hmem;cases hmem
  refine⟨fun hr=>absurd (fun i hi=>hready0 (i+1) i (by omega) hi hr) hall,fun i hi=>?_⟩
  have hil:i<l.length:=by
   rcases m0 i l.length with h' |h'
   ·exact h'
   ·exact absurd (lower done a w S σ c i hfree h hi h') hall
  obtain⟨hun,o,ho,hwait⟩:=qN.1 hi
  have ho' :(l++t)[i]? =some o:=by simpa using ho
  have hol:=hL1 i o hil ho'
  obtain⟨e,he,needs,u,Y,H,Q,_,h4,h5⟩:=hget i o hol
  rw [uj]at Y Q h4
  have hF:=h.need ho' hun hwait H Q
  have his:i<done.size:=by rw [h.dsz,kO];omega
  have hun' :done.getD i false=false:=by rw [<-m9 his];exact hun
  have hu' :kC (done.setIfInBounds i true)=fuel:=by have:=pb hun;omega
  have huq: ∀aN,o.dst=some aN-> ∀j p,(l++t)[j]? =some p->done.getD j false=true->p.dst=some aN->i=j:=fun aN hdd j p hj hjd hpd=>by
   rcases m0 j l.length with h' |h'
   ·exact hs2 i j o p aN hol (hL1 j p h' hj) hdd hpd
   ·rw [hfree j h']at hjd;cases hjd
  have hfree' : ∀j,l.length<=j->(done.setIfInBounds i true).getD j false=false:=fun j hj=>by
   rw [ub false (by omega)];exact hfree j hj
  have hbl:E.base<=w.heap.size:=h.ext.size
  have hwaits: ∀q,(l++t)[i]? =some q-> ∀e∈q.after,Region.binds .any e=true->done.getD e.on false=true:=fun q hq e he W=>by
   have:q=o:=by rw [ho']at hq;simpa using hq.symm
   subst this
   exact hwait e he W
  have hdpp: ∀k∈u.1,k=i\/done.getD k false=true:=fun k hk=>by
   have:=me.1 h4 k hk
   simp only [iO,xn]at this
   rcases this.2 with W|W
   ·exact .inl (nk W)
   ·exact .inr (fz h.down _ i k hwaits W)
  have hdNN: ∀aN,o.dst=some aN->aN<E.N.n:=fun aN hd=>(hs1 o (rm hol) aN hd).1
  unfold wpOpIn
  rw [ho]
  show if _ then _ else _
  cases e with
  |false=>
   simp only at h5
   obtain⟨hdS,lo,hi',hwin,h5⟩:=h5
   rw [uj]at hwin
   obtain⟨aN,hdd⟩:=Option.isSome_iff_exists.1 hdS
   have hdN:=(hs1 o (rm hol) aN hdd).1
   unfold QX at hwin
   rw [iO]at hwin
   obtain⟨hw1,hw2⟩:=hwin
   have hw1' :=pN hw1
   have hwk: ∀k,es[k]? =some true->(Nat.ble lo (fW es k)=true\/mo (l++t) (l++t).length i k=true)/\(Nat.blt (fW es k) hi' =true\/mo (l++t) (l++t).length k i=true):=fun k hk=>by
    have hkl:k<es.length:=(pZ.1 hk).1
    have:=me.1 hw2 k (by simpa using hkl)
    rw [hk]at this
    simpa using this
   have hlo:lo<=c:=by
    rcases m0 c lo with hlt|hge
    ·exfalso
     obtain⟨k,hk1,hk2,hk3⟩:=tZ (es:=es) (c:=c) (k:=es.length) (by omega)
     rcases(hwk k hk2).1 with W|W
     ·have:=pN W;omega
     ·have:=(h.chain k hk2).1 (fz h.down _ i k hwaits W)
      omega
    ·exact hge
   have hhi:c<=hi' :=by
    rcases m0 hi' c with hlt|hge
    ·exfalso
     obtain⟨k,hk1,hk2,hk3⟩:=tZ (es:=es) (c:=hi') (k:=es.length) (by omega)
     rcases(hwk k hk2).2 with W|W
     ·simp only [r0]at W;omega
     ·have hkd:done.getD k false=true:=(h.chain k hk2).2 (by omega)
      have:=fz h.down _ k i (fun q hq e he W=>h.down k q hq hkd e he W) W
      rw [this]at hun';cases hun'
    ·exact hge
   have h6:=h5 c σ hlo hhi a w S h.sat h.own hF
   have hch' : ∀k,es[k]? =some true->((done.setIfInBounds i true).getD k false=true↔fW es k<c):=fun k hk=>by
    have hne:i≠k:=fun e=>by subst e;rw [he]at hk;cases hk
    rw [ub false hne];exact h.chain k hk
   by_cases hw:Region.wanted o (yielded (l++t).toArray a.tmps)=true
   ·rw [bu hw]at h6 ⊢
    refine j9 (fun a' w' ⟨v,S',ha,V,hs,hv⟩=>?_) h6
    subst ha
    exact ih _ _ _ S' _ c hu' hfree' hcle (h.step ho' hdNN huq hwait Y hun hdpp V (fun _ W=>W.elim) hs (h.own.ext0 V) (fun _ _=>rfl) hv hch')
   ·rw [aZ hw]at h6 ⊢
    exact⟨fun _ _=>trivial,ih _ _ _ S _ c hu' hfree' hcle (h.step ho' hdNN huq hwait Y hun hdpp (ib rn _ _) (fun _ W=>W.elim) h.sat h.own (fun _ _=>rfl) h6 hch')⟩
  |true=>
   simp only [uj]at h5
   -- it is the next one of the chain
   have hca:fW es i=c:=by
    have hn: ¬fW es i<c:=fun hlt=>by rw [(h.chain i he).2 hlt]at hun';cases hun'
    rcases m0 c (fW es i)with hlt|hge
    ·exfalso
     obtain⟨k,hk1,hk2,hk3⟩:=tZ hlt
     have hkd:done.getD k false=true:=fz h.down _ i k hwaits (hchain i k hk1 he hk2)
     have:=(h.chain k hk2).1 hkd
     omega
    ·omega
   subst hca
   have h6:=h5 σ a w S h.sat h.own hF hbl
   have hch' : ∀k,es[k]? =some true->((done.setIfInBounds i true).getD k false=true↔fW es k<fW es i+1):=fun k hk=>by
    by_cases hik:i=k
    ·subst hik
     constructor
     ·intro _;omega
     ·intro _;simp [his]
    ·rw [ub false hik,h.chain k hk]
     constructor
     ·intro h;omega
     ·intro hlt
      rcases m0 i k with hlk|hlk
      ·have:=B4 hlk he;omega
      ·exact B4 (by omega) hk
   have hcle' :fW es i+1<=fW es es.length:=B4 (by omega) he
   by_cases hw:Region.wanted o (yielded (l++t).toArray a.tmps)=true
   ·rw [bu hw]at h6 ⊢
    refine j9 (fun a' w' ⟨v,S',x,ha,V,hs,hown,hv⟩=>?_) h6
    subst ha
    exact ih _ _ _ S' _ _ hu' hfree' hcle' (h.step ho' hdNN huq hwait Y hun hdpp V (fun b ⟨f,hf,W⟩=>(dL.mem h.own f hf).2 b W) hs hown (fun k hk=>Ef σ x hk) hv hch')
   ·rw [aZ hw]at h6 ⊢
    obtain⟨x,hown,hv⟩:=h6
    exact⟨fun _ _=>trivial,ih _ _ _ S _ _ hu' hfree' hcle' (h.step ho' hdNN huq hwait Y hun hdpp (ib rn _ _) (fun _ W=>W.elim) h.sat hown (fun k hk=>Ef σ x hk) hv hch')⟩
variable{O:List OE}{st:TypeId}
def ic{id:Nat}(m:Nat)(ts:List TS)(es:List Bool)(Ss:List ((Nat->OI)->List OE))(hO:Ss[0]? =some fun _=>O)(hm:E.P.follows .mixedOrders=true)(hsl:uI E.N.n [] (L.take m)=true)(hlen:ts.length=(L.take m).length)(hesl:es.length=(L.take m).length)(hch:IU L es=true)(D:wm L (L.take m).length (L.drop m).length=true)(hd:DS E G L ts Ss es 0 0 (L.take m) es)(k: ∀σ:Nat->OI,RG E L.toArray h3 (L.drop m) (LN Ss (fW es es.length) σ) (F5 (L.take m) (NY ts σ) G)):CG E h3 (.region id L.toArray true) O G:=fun a w S st=>by
 have hL:L=L.take m++L.drop m:=(qL m L).symm
 generalize L.take m=l at hL hsl hlen hesl D hd k
 generalize L.drop m=t at hL D k
 subst hL
 refine wpIn_region_any hm ?_
 obtain⟨he,hs⟩:=vw (w:=w) st.sat
 have hO0:LN Ss 0 (fun _=>j8)=O:=by unfold LN;rw [hO]
 refine Fx hsl hlen hesl hd hch D (fun a w S σ st=>k σ a w S st) _ _ _ _ S (fun _=>j8) 0 ?_ (fun j _=>?_) (nv _)
  ⟨st.ext.step0 he,hs,by rw [hO0];exact st.own.ext0 he,st.facts.size,st.facts.defers,by simp,fun j o hj hdone=>?_,fun k t hk _=>st.facts.at_ k t hk,fun j o aN t hj hdone=>?_,fun j p hdone=>?_,fun k _=>⟨fun hdone=>?_,fun h=>(by omega)⟩⟩
 ·unfold kC;rw [Jb,I9];simp
 ·simp [wE];split<;>rfl
 ·simp [wE]at hdone
  split at hdone<;>simp at hdone
 ·simp [wE]at hdone
  split at hdone<;>simp at hdone
 ·simp [wE]at hdone
  split at hdone<;>simp at hdone
 ·simp [wE]at hdone
  split at hdone<;>simp at hdone
def mC{p:Nat->(Nat->OI)->Prop}{lo:Nat}(h: ∀σ,p lo σ): ∀c σ,lo<=c->c<=lo->p c σ:=fun c σ Y H=>by
 have:c=lo:=by omega
 subst this;exact h σ
def AM{p:Nat->(Nat->OI)->Prop}{lo hi:Nat}(h: ∀σ,p lo σ)(k: ∀c σ,lo+1<=c->c<=hi->p c σ): ∀c σ,lo<=c->c<=hi->p c σ:=fun c σ Y H=>by
 by_cases e:c=lo
 ·subst e;exact h σ
 ·exact k c σ (by omega) H
variable{after:Array Edge}{g:Option (Nat×Bool)}{ok:α->Prop}{op:Op}{pos:String}{post:OI->List OE}
def BR{ty:TypeId}(hnd: ∀c,op≠ .defer c)(h: ∀a w S,kV w S->dL E.base E.B w S O->bR E.N S a G->E.base<=w.heap.size-> ∃w' S' x,(execOp a.eval ⟨none,op,ty,pos,after,g⟩).run E.P w= .ok .skip w' /\jc (DD O) w S w' S' /\kV w' S' /\dL E.base E.B w' S' (post x)):
  EffOK E O G ⟨none,op,ty,pos,after,g⟩ post (fun _=>AW):=fun a w S hs ho hf W=>by
 obtain⟨w',S',x,Y,H,Q,h4⟩:=h a w S hs ho hf W
 refine⟨hnd,?_⟩
 rw [Y]
 exact⟨undef,S',x,rfl,H,Q,h4,trivial⟩

abbrev HL:=List (Nat×Value)
def xS:HL->Nat->Option Value
 |[],_=>none
 |p::hs,o=>bif Nat.beq p.1 o then some p.2 else xS hs o
def qF: ∀{hs:HL} {o:Nat} {v:Value},xS hs o=some v->(o,v)∈hs
 |[],_,_,h=>by cases h
 |p::hs,o,v,h=>by
  unfold xS at h
  by_cases W:Nat.beq p.1 o=true
  ·rw [W]at h
   have e1:=nk W
   have e2:p.2=v:=oy h
   subst e1 e2
   exact nV ..
  ·rw [yH]at W
   rw [W]at h
   exact o8 _ (qF h)
def rH{α:Type}(r:Rp α)(hs:HL):Rp α where
 sz:=r.sz
 agg:=r.agg
 rc:=fun S cs x=>r.rc S cs x/\ ∀p∈hs,cs[p.1]? =some p.2
 mono:=fun h k=>⟨r.mono h k.1,k.2⟩
 len:=fun k=>r.len k.1
 one:=fun k=>r.one k.1
 sc:=r.sc
variable{cs:List Value}{off:Nat}
def dZ{hs:HL}{get:α->β}(h:j6 r off q get):j6 (rH r hs) off q get:=fun S cs x k=>h S cs x k.1
def Lt(h:cs[off]? =some v):(cs.drop off).take 1=[v]:=by
 have hlt:=(pZ.1 h).1
 rw [Cr hlt,(pZ.1 h).2]
 rfl
def We{hs:HL}(h:xS hs off=some v):j6 (rH r hs) off rV (fun _=>v):=fun S cs x k=>by
 have Y:=k.2 _ (qF h)
 exact⟨Lt Y,r.one k.1 v (rm Y)⟩
def HZ(z:List Value):HL->Prop
 |[]=>True
 |p::hs=>z[p.1]? =some p.2/\HZ z hs
variable{z:List Value}
def HZ.all: ∀{hs:HL},HZ z hs-> ∀p∈hs,z[p.1]? =some p.2
 |_::_,⟨h,_⟩,_,.head _=>h
 |_::_,⟨_,h⟩,_,.tail _ hm=>HZ.all h _ hm
def zH{x:α}{hs:HL}(h: ∀S,r.rc S z x)(k:HZ z hs): ∀S,(rH r hs).rc S z x:=fun S=>⟨h S,k.all⟩
def Rz(hs:HL)(off sz:Nat):Bool:=hs.all fun p=>Nat.blt p.1 off||Nat.ble (off+sz) p.1
def SR(hs:HL)(off sz:Nat)(v:Option Value):HL->Prop
 |[]=>True
 |p::l=>((v=some p.2/\p.1=off/\sz=1)\/(xS hs p.1=some p.2/\(Nat.blt p.1 off||Nat.ble (off+sz) p.1)=true))/\SR hs off sz v l
variable{sz:Nat}
def SR.all{hs:HL}{v:Option Value}: ∀{l:HL},SR hs off sz v l-> ∀p∈l,(v=some p.2/\p.1=off/\sz=1)\/(xS hs p.1=some p.2/\(Nat.blt p.1 off||Nat.ble (off+sz) p.1)=true)
 |_::_,⟨h,_⟩,_,.head _=>h
 |_::_,⟨_,h⟩,_,.tail _ hm=>SR.all h _ hm
def rX{ds:List Value}{k:Nat}(hl:ds.length=sz)(hoff:off+sz<=cs.length)(h:(Nat.blt k off||Nat.ble (off+sz) k)=true):(cs.take off++ds++cs.drop (off+sz))[k]? =cs[k]? :=by
 simp only [xn,r0,Nat.ble_eq]at h
 have D:(cs.take off).length=off:=by simp;omega
 rcases h with h|h
 ·rw [xv (by simp;omega),xv (by omega),vX h]
 ·rw [uo (by simp;omega),tk]
  congr 1
  simp only [kO,D,hl];omega
def Nz{ds:List Value}(hd:ds=[v])(hoff:off+1<=cs.length):(cs.take off++ds++cs.drop (off+1))[off]? =some v:=by
 subst hd
 have D:(cs.take off).length=off:=by simp;omega
 rw [xv (by simp;omega),uo (by omega),D,uc]
 rfl
variable{set:α->β->α}{y:Code}
def mF{hs hs' :HL}{x:α}{y:β}(h:eE r off q set)(hk:SR hs off q.sz none hs')(hoff:Nat.ble (off+q.sz) r.sz=true):s7 (rH r hs) (rH r hs') off q x y (set x y):=fun S cs ds Y H=>by
 refine⟨h S cs x ds y Y.1 H,fun p hp=>?_⟩
 rcases hk.all p hp with⟨e,_⟩|⟨g1,g2⟩
 ·cases e
 ·have hl:=r.len Y.1
  rw [rX (q.len H) (by have:=pN hoff;omega) g2]
  exact Y.2 _ (qF g1)
def Dd{hs:HL}(h:eE r off q set)(hk:Rz hs off q.sz=true)(hoff:Nat.ble (off+q.sz) r.sz=true):eE (rH r hs) off q set:=fun S cs x ds y Y H=>by
 refine⟨h S cs x ds y Y.1 H,fun p hp=>?_⟩
 have hl:=r.len Y.1
 rw [rX (q.len H) (by have:=pN hoff;omega) (me.1 hk p hp)]
 exact Y.2 _ hp
variable{T U:TypeId}{hx:MV β}{agg:Bool}{bytes cap:Nat}{dst:Option Tmp}{ops:Array Oper}{rest:List Oper}{xs:List α}
section
variable{c:Code}{e:Exit}
section
variable{ty:TypeId}
def d6{t:OI->Ty}(h:EffOK E O G ⟨none,op,ty,pos,after,none⟩ post t)(k: ∀x,RG E ops h3 rest (post x) G):RG E ops h3 (⟨none,op,ty,pos,after,none⟩::rest) O G:= .of rfl fun a w S st=>
 m7 (fun a' w' ⟨v,S',x,ha,V,hs,ho,hv⟩=>by
  subst ha
  exact k x _ _ S' ⟨st.ext.step V fun b ⟨f,hf,W⟩=>(dL.mem st.own f hf).2 b W,hs,ho,st.facts.mono V.keep⟩) (h a w S st.sat st.own st.facts st.base_le)
def cK{γ:Type}{r' :Rp γ}{x:α}{x' :γ}{y:β}{v:Operand}(ti:TI E.P U sz bytes agg z)(hsz:q.sz=sz)(hset:s7 r r' off q x y x')(hoff:Nat.ble (off+q.sz) r.sz=true)(hp:aI E.N G p (K (M b off)))(hv:aI E.N G v (tD q y)):EffOK E (Z r T b x::O) G ⟨none,.store U p v,ty,pos,after,g⟩ (fun _=>Z r' T b x' ::O) (fun _=>AW):=BR (fun _ h=>(by cases h)) fun a w S hs ho hf W=>by
 have Y:a.eval p=M b off:=hp S a hf
 obtain⟨ds,H,Q⟩:=hv S a hf
 obtain⟨⟨hno,cur,h5,h6⟩,_⟩:=ho.1
 have hl:=r.len h6
 have hoff' :=pN hoff
 obtain⟨w',hr,e1,e2,e3,e4,e5,e6⟩:=iY ti hsz Q h5 (off:=off) (by simp at hl;omega)
 have hrun:(execOp a.eval ⟨none,.store U p v,ty,pos,after,g⟩).run E.P w= .ok .skip w' :=by
  simp [execOp,Y,H,Instr.storeAt,M,Instr.sureAddr,hr]
 obtain⟨g1,g2,g3⟩:=lV (O:=O) hs (Z r T b x) (Z r' T b x') ho (fun _=>qM) (fun _=>qM) ⟨e1,e2,e3,e4.1,e4.2⟩ e6 ⟨hno,_,e5,by simpa using hset S _ _ h6 Q⟩ hno
 exact⟨w',S,j8,hrun,g1.more fun k hk=>⟨_,nV ..,hk⟩,g2,g3⟩
def kJ{hs hs' :HL}{x:α}{y:β}{u:Value}{v:Operand}(ti:TI E.P U 1 bytes false z)(hsz:q.sz=1)(hag:q.agg=false)(hset:eE r off q set)(hoff:Nat.ble (off+1) r.sz=true)(hk:SR hs off 1 (some u) hs')(hp:aI E.N G p (K (M b off)))(hv:aI E.N G v (tD q y))(hu:aI E.N G v (K u)):EffOK E (Z (rH r hs) T b x::O) G ⟨none,.store U p v,ty,pos,after,g⟩ (fun _=>Z (rH r hs') T b (set x y)::O) (fun _=>AW):=BR (fun _ h=>(by cases h)) fun a w S hsat ho hf W=>by
 have Y:a.eval p=M b off:=hp S a hf
 obtain⟨ds,H,Q⟩:=hv S a hf
 have hu' :a.eval v=u:=hu S a hf
 obtain⟨⟨hno,cur,h5,h6⟩,_⟩:=ho.1
 have hl:=r.len h6.1
 have hoff' :=pN hoff
 have hdl:=q.len Q
 have hds:ds=[u]:=by
  obtain⟨aN,hd⟩:=List.length_eq_one_iff.1 (by rw [hdl,hsz]:ds.length=1)
  subst hd
  have e1:q.val [aN]=aN:=by simp [Rp.val,hag]
  rw [H,e1]at hu'
  rw [hu']
 obtain⟨w',hr,e1,e2,e3,e4,e5,e6⟩:=iY ti hsz Q h5 (off:=off) (by simp at hl;omega)
 have hrun:(execOp a.eval ⟨none,.store U p v,ty,pos,after,g⟩).run E.P w= .ok .skip w' :=by
  simp [execOp,Y,H,Instr.storeAt,M,Instr.sureAddr,hr]
 rw [hsz]at e5
 have hnew:(rH r hs').rc S (cur.toList.take off++ds++cur.toList.drop (off+1)) (set x y):=by
  have h7:=hset S _ _ _ _ h6.1 Q
  rw [hsz]at h7
  refine⟨h7,fun p hp=>?_⟩
  rcases hk.all p hp with⟨f1,f2,_⟩|⟨f1,f2⟩
  ·rw [f2]
   exact Nz (by rw [hds,oy f1]) (by omega)
  ·rw [rX (by rw [hdl,hsz]) (by omega) f2]
   exact h6.2 _ (qF f1)
 obtain⟨g1,g2,g3⟩:=lV (O:=O) hsat (Z (rH r hs) T b x) (Z (rH r hs') T b (set x y)) ho (fun _=>qM) (fun _=>qM) ⟨e1,e2,e3,e4.1,e4.2⟩ e6 ⟨hno,_,e5,by simpa using hnew⟩ hno
 exact⟨w',S,j8,hrun,g1.more fun k hk=>⟨_,nV ..,hk⟩,g2,g3⟩
end
section
variable{ty:TypeId}
def dv{hs:HL}{x:α}{u:Value}(ti:TI E.P U 1 bytes false z)(hk:xS hs off=some u)(hm:Z (rH r hs) T b x∈O)(hp:aI E.N G p (K (M b off))):
  b9 E O G ⟨dst,.load U p,ty,pos,after,g⟩ (K u):=(aE (q:=rV) ti rfl rfl (We hk) hm hp).imp fun _ _ h=>(vy.1 h).1
def lc{q:Rp α}{r:Rp β}{hs:HL}{x:β}{hx:TypeId}{l:Option Nat}(ti:TI E.P U 1 bytes false z)(hk:xS hs off=some (an l cap xs.length))(hm:Z (rH r hs) T b x∈O)(hm2:tip q hx l cap xs∈O)(hp:aI E.N G p (K (M b off))):
  b9 E O G ⟨dst,.load U p,ty,pos,after,g⟩ (tO q l cap xs):=fun a w S hs' ho hf=>
 m7 (fun _ _ ⟨v,S',Y,H,Q,h4⟩=>⟨v,S',Y,H,Q,h4,by
  have h5:v=an l cap xs.length:=h4
  rw [h5]
  exact lM (((ho.ext0 H).mem _ hm2).1)⟩) (dv (g:=g) (ty:=ty) (pos:=pos) (after:=after) (dst:=dst) ti hk hm hp a w S hs' ho hf)
def OK{x:Operand}(Y: ∀S v,t.p S v->v.oneCell' =true)(V:aI E.N G x t):b9 E O G ⟨dst,.box T x,ty,pos,after,g⟩ (cH (rT t) ()):=
 MF (fun S a hf=>V3.2 ⟨Y _ _ (V S a hf),V S a hf⟩)
end
def On:HL->HL->Prop
 |[],_=>True
 |p::l,hs=>xS hs p.1=some p.2/\On l hs
def On.all{hs:HL}: ∀{l:HL},On l hs-> ∀p∈l,p∈hs
 |_::_,⟨h,_⟩,_,.head _=>qF h
 |_::_,⟨_,h⟩,_,.tail _ hm=>On.all h _ hm
end

variable{O' :List OE}
def EffOK.perm{t:OI->Ty}(h:EffOK E O' G o post t)(k: ∀{w S},dL E.base E.B w S O->dL E.base E.B w S O')(m: ∀f∈O',f∈O):EffOK E O G o post t:=fun a w S hs ho hf W=>
 m7 (fun _ _ ⟨v,S',x,Y,H,Q,h4,h5⟩=>⟨v,S',x,Y,H.more fun _ ⟨f,hf,hk⟩=>⟨f,m f hf,hk⟩,Q,h4,h5⟩) (h a w S hs (k ho) hf W)
variable{x0 x1 x2 x3 x4 x5:OE}
namespace EffOK
section
variable{t:OI->Ty}
def fr1(h:EffOK E (x1::x0::O) G o post t):EffOK E (x0::x1::O) G o post t:=h.perm (fun hw=>dL.swap hw) (fun f hf=>by simp only [jy]at hf ⊢;rcases hf with h|h|h<;>simp [h])
def fr2(h:EffOK E (x2::x0::x1::O) G o post t):EffOK E (x0::x1::x2::O) G o post t:=h.perm (fun hw=>pz hw) (fun f hf=>by simp only [jy]at hf ⊢;rcases hf with h|h|h|h<;>simp [h])
def fr3(h:EffOK E (x3::x0::x1::x2::O) G o post t):EffOK E (x0::x1::x2::x3::O) G o post t:=h.perm (fun hw=>ri hw) (fun f hf=>by simp only [jy]at hf ⊢;rcases hf with h|h|h|h|h<;>simp [h])
def fr4(h:EffOK E (x4::x0::x1::x2::x3::O) G o post t):EffOK E (x0::x1::x2::x3::x4::O) G o post t:=h.perm (fun hw=>t8 hw) (fun f hf=>by simp only [jy]at hf ⊢;rcases hf with h|h|h|h|h|h<;>simp [h])
def fr5(h:EffOK E (x5::x0::x1::x2::x3::x4::O) G o post t):EffOK E (x0::x1::x2::x3::x4::x5::O) G o post t:=h.perm (fun hw=>rh hw) (fun f hf=>by simp only [jy]at hf ⊢;rcases hf with h|h|h|h|h|h|h<;>simp [h])
def fr6{x6:OE}(h:EffOK E (x6::x0::x1::x2::x3::x4::x5::O) G o post t):EffOK E (x0::x1::x2::x3::x4::x5::x6::O) G o post t:=h.perm (fun hw=>rg hw) (fun f hf=>by simp only [jy]at hf ⊢;rcases hf with h|h|h|h|h|h|h|h<;>simp [h])
def fr7{x6 x7:OE}(h:EffOK E (x7::x0::x1::x2::x3::x4::x5::x6::O) G o post t):EffOK E (x0::x1::x2::x3::x4::x5::x6::x7::O) G o post t:=h.perm (fun hw=>Cb hw) (fun f hf=>by simp only [jy]at hf ⊢;rcases hf with h|h|h|h|h|h|h|h|h<;>simp [h])
def post_imp{post' :OI->List OE}(h:EffOK E O G o post t)(k: ∀{w S x},dL E.base E.B w S (post x)->dL E.base E.B w S (post' x)):EffOK E O G o post' t:=fun a w S hs ho hf W=>
 m7 (fun _ _ ⟨v,S',x,Y,H,Q,h4,h5⟩=>⟨v,S',x,Y,H,Q,k h4,h5⟩) (h a w S hs ho hf W)
end
end EffOK
variable{P:Program}{args:A->List Ty}{res:ρ->Ty}
section
variable{ty:TypeId}
def IQ{zs:List α}{y v:α}{i:Int}{x:Operand}(ti:TI E.P U sz bytes agg z)(hsz:r.sz=sz)(hy:ga xs i=some y)(hz:xs.set i.toNat v=zs)(hp:aI E.N G p (K (M b (i.toNat*r.sz))))(hv:aI E.N G x (tD r v)):EffOK E (Z (mg r n) T b xs::O) G ⟨none,.store U p x,ty,pos,after,g⟩ (fun _=>Z (mg r n) T b zs::O) (fun _=>AW):=BR (fun _ h=>(by cases h)) fun a w S hsat hown hf hbase=>by
 subst hz
 have Y:a.eval p=M b (i.toNat*r.sz):=hp S a hf
 obtain⟨ds,H,Q⟩:=hv S a hf
 obtain⟨⟨hno,cur,h5,h6⟩,_⟩:=hown.1
 obtain⟨h0,hy'⟩:=lQ hy
 have hlt:i.toNat<xs.length:=(pZ.1 hy').1
 have hl:=jl h6.2
 simp only [Fc]at hl
 have hmul:i.toNat*r.sz+r.sz<=xs.length*r.sz:=by rw [<-Nat.succ_mul];exact xu _ hlt
 obtain⟨w',hr,e1,e2,e3,e4,e5,e6⟩:=iY ti hsz Q h5 (off:=i.toNat*r.sz) (by omega)
 have hrun:(execOp a.eval ⟨none,.store U p x,ty,pos,after,g⟩).run E.P w= .ok .skip w' :=by
  simp [execOp,Y,H,Instr.storeAt,M,Instr.sureAddr,hr]
 obtain⟨g1,g2,g3⟩:=lV (O:=O) hsat (Z (mg r n) T b xs) (Z (mg r n) T b (xs.set i.toNat v)) hown (fun _=>qM) (fun _=>qM) ⟨e1,e2,e3,e4.1,e4.2⟩ e6 ⟨hno,_,e5,by rw [zW];exact h6.1,Ad Q h6.2 hlt⟩ hno
 exact⟨w',S,j8,hrun,g1.more fun c hc=>⟨_,nV ..,hc⟩,g2,g3⟩

section
def vO{x:α}(ti:TI E.P T sz bytes agg z)(V: ∀S,r.rc S z x):
  EffOK E O G ⟨some aN,.alloc T,ty,pos,after,g⟩ (fun i=>Z r T (i.h 0).2 x::O) (fun i=>K (M (i.h 0).2 0)):=fun a w S hs ho hf W=>by
 obtain⟨zv,hzr,hzc⟩:=ti.zero w
 obtain⟨he,hs',hno⟩:=iG (w:=w) (.cells z.toArray T (0,0)) hs
 have hrun:(execOp a.eval ⟨some aN,.alloc T,ty,pos,after,g⟩).run E.P w= .ok (.value (M w.heap.size 0)) (w.alloc (.cells z.toArray T (0,0))):=by
  simp [execOp,Instr.alloc,hzr,newVar,newRow,hzc,M]
 refine⟨fun c h=>(by cases h),?_⟩
 rw [hrun]
 exact⟨_,S,oi none w.heap.size,rfl,he.more fun _ W=>W.elim,hs',pJ ho he (e:=Z r T w.heap.size x) ⟨hno,z.toArray,Aq w _,by simpa using V S⟩ (fun b W=>xx W.symm) W,rfl⟩
end
section
def aD{x:Operand}(V:aI E.N G x (K (M b off))):b9 E O G ⟨dst,.nilCheck x,ty,pos,after,g⟩ (K (M b off)):= .of_pure fun a w S _ _ hf=>by
 have Y:a.eval x=M b off:=V S a hf
 exact⟨M b off,by simp [execOp,Y,M],rfl⟩
def OG{y:α}{x:Operand}(V:aI E.N G x (cH r y)):b9 E O G ⟨dst,.nilCheck x,ty,pos,after,g⟩ (cH r y):= .of_pure fun a w S _ _ hf=>by
 have h0:=V S a hf
 obtain⟨b,off,c,U,fr,Y,H,Q⟩:=h0
 exact⟨_,by simp [execOp,Y],b,off,c,U,fr,rfl,H,Q⟩
def eO{u:Value}(ti:TI E.P U 1 bytes false z)(hm:Z rV T b u∈O)(hp:aI E.N G p (K (M b 0))):
  b9 E O G ⟨dst,.load U p,ty,pos,after,g⟩ (K u):=(aE (q:=rV) (get:=fun x=>x) ti rfl rfl bo hm hp).imp fun _ _ h=>(vy.1 h).1
def sS(ti:TI E.P U 1 bytes false z)(hp:aI E.N G p (cH (rT t) ())):b9 E O G ⟨dst,.load U p,ty,pos,after,g⟩ t:=Ge ti hp
end
def B8(h:O=O')(k:RG E ops h3 rest O' G):RG E ops h3 rest O G:=by subst h;exact k
def hW{x:Operand}{u:Value}(h:aI N G x (K u))(ho:u.oneCell' =true):aI N G x (tD rV u):=fun S a hf=>vy.2 ⟨h S a hf,ho⟩
def hTT{x:Operand}(Y: ∀S v,t.p S v->v.oneCell' =true)(h:aI N G x t):aI N G x (tD (rT t) ()):=fun S a hf=>V3.2 ⟨Y _ _ (h S a hf),h S a hf⟩
def OF{args:α->List Ty}{res:β->Ty}{f:α->Option β}: ∀S v,(ke P args res f).p S v->v.oneCell' =true:=fun _ _ ⟨_,_,e,_⟩=>by rw [e];rfl
end

variable{mm:Bool}{ys:List α}
def FJ{l:Option Nat}{t' e' :TypeId}(D:P.underlying t' =some (.slice e'))(h:xj mm r U l cap xs w S)(hs:dz xs lo (xs.length:Int)=some ys):
  ∃news,Src P r.sz t' (mf r.sz l cap lo.toNat ys.length) ys.length news w/\o4 r S news ys:=by
 obtain⟨cells,Y,H,_⟩:=h
 obtain⟨lo',m,rfl,hm,Q,h4,rfl⟩:=fb hs
 have hm' :m=xs.length:=by omega
 subst hm'
 rw [Au,yJ]
 cases l with
 |none=>
  have V:xs=[]:=sd Y.1
  subst V
  exact⟨[],by simpa [mf] using Src.ofNil w D 0,by simp [o4]⟩
 |some b=>
  obtain⟨cur,g1,g2,g3,g4,g5⟩:=Y
  have hlen:(xs.drop lo').length=xs.length-lo' :=by simp
  have hcl:=jl H
  have hsp:xs=xs.take lo' ++xs.drop lo' :=(qL lo' xs).symm
  have htl:(xs.take lo').length=lo' :=by simp;omega
  have hr:o4 r S (cells.drop (lo' *r.sz)) (xs.drop lo'):=by
   rw [hsp]at H
   have:=(oc H).2
   rwa [htl]at this
  have hmul:lo' *r.sz<=xs.length*r.sz:=xu _ Q
  refine⟨cells.drop (lo' *r.sz),?_,hr⟩
  unfold mf
  refine Src.ofSlice w D _ _ _ _ (jl hr) (fun j u hu=>?_) (vC hr)
  by_cases hc:cap=lo'
  ·have:xs.drop lo' =[]:=D8 (by omega)
   rw [this]at hr
   have hr' :cells.drop (lo' *r.sz)=[]:=hr
   rw [hr']at hu;simp at hu
  ·simp only [hc,md]
   rw [hZ,tX g1]
   rw [tk,<-g5]at hu
   have hj:lo' *r.sz+j<xs.length*r.sz:=by
    have:=(pZ.1 hu).1
    simp at this;omega
   rw [vX hj]at hu
   simpa using hu
variable{yt:TypeId}
section
variable{ty:TypeId}
def Lv{l:Option Nat}{x:Operand}{t:TypeId}(D:E.P.underlying t=some (.slice e))(hm:kP mm r U l cap xs∈O)(hs:dz xs lo (xs.length:Int)=some ys)(V:aI E.N G x (K (mf r.sz l cap lo.toNat ys.length)))(hd:Nat.blt aN E.N.n=true)(k: ∀b,(b=true->ys=[])->RG E ops h3 rest O ((aN,tD rB b)::G)):RG E ops h3 (⟨some aN,.binOp .eql t x (.const (.slice none 0 0)) yt,ty,pos,after,none⟩::rest) O G:= .of rfl fun a w S st=>by
 have Y:a.eval x=mf r.sz l cap lo.toNat ys.length:=V S a st.facts
 obtain⟨⟨cells,hraw,_⟩,_⟩:=st.own.mem _ hm
 have hcn:a.eval (.const (.slice none 0 0))= .slice none 0 0:=rfl
 cases l with
 |none=>
  have hx0:xs=[]:=sd hraw.1
  have hy0:ys=[]:=by
   obtain⟨lo',m,_,_,_,_,rfl⟩:=fb hs
   subst hx0;simp
  have Q:(Op.equal t (.slice none 0 0) (.slice none 0 0)).run E.P w= .ok true w:=xF fun aN=>by
   simp [Op.equalIn,iv D]
  have hrun:(execOp a.eval ⟨some aN,.binOp .eql t x (.const (.slice none 0 0)) yt,ty,pos,after,none⟩).run E.P w= .ok (.value (.bool true)) w:=by
   simp [execOp,Y,mf,hcn,eqGuard,binOp,Q]
  refine⟨fun c h=>(by cases h),?_⟩
  rw [hrun]
  exact k true (fun _=>hy0) _ _ S (st.step (ib _ _ _) st.sat hd (ie.2 rfl))
 |some b=>
  obtain⟨ad,hv⟩: ∃ad,mf r.sz (some b) cap lo.toNat ys.length= .slice (some ad) ys.length (cap-lo.toNat):=⟨_,rfl⟩
  have Q:(Op.equal t (.slice (some ad) ys.length (cap-lo.toNat)) (.slice none 0 0)).run E.P w= .ok false w:=xF fun aN=>by
   simp [Op.equalIn,iv D]
  have hrun:(execOp a.eval ⟨some aN,.binOp .eql t x (.const (.slice none 0 0)) yt,ty,pos,after,none⟩).run E.P w= .ok (.value (.bool false)) w:=by
   simp [execOp,Y,hv,hcn,eqGuard,binOp,Q]
  refine⟨fun c h=>(by cases h),?_⟩
  rw [hrun]
  exact k false (fun e=>(by cases e)) _ _ S (st.step (ib _ _ _) st.sat hd (ie.2 rfl))
def I0{t t' :TypeId}{l l2:Option Nat}{cap2:Nat}{zs us:List α}{x y:Operand}(ti:TI E.P T sz bytes agg z)(hsz:r.sz=sz)(hz:Nat.beq z.length sz=true)(h0:Nat.blt 0 sz=true)(h128:Nat.ble bytes 2048=true)(D:E.P.underlying t=some (.slice T))(ht' :t' =t)(hd:Nat.blt aN E.N.n=true)(V:aI E.N G x (K (an l cap n)))(hm:kP mm r U l2 cap2 us∈cM r T l cap xs::O)(hs:dz us lo (us.length:Int)=some ys)(hy:aI E.N G y (K (mf r.sz l2 cap2 lo.toNat ys.length)))(happ:jb xs ys=some zs)(k: ∀l' cap',RG E ops h3 rest (cM r T l' cap' zs::O) ((aN,K (an l' cap' zs.length))::G))(hn:n=xs.length:=by rfl):
  RG E ops h3 (⟨some aN,.call ⟨.builtin .append,#[x,y],#[t,t']⟩,ty,pos,after,none⟩::rest) (cM r T l cap xs::O) G:=by
 subst ht'
 exact t7 (u:=fun cap' l' =>K (an l' cap' zs.length)) ti hsz hz h0 h128 D hd V (fun a w S st=>by
  have Y:a.eval y=mf r.sz l2 cap2 lo.toNat ys.length:=hy S a st.facts
  rw [Y]
  exact FJ D (st.own.mem _ hm).1 hs) happ (fun _ _ _ _ _=>rfl) k hn
end

section
variable{c:Code}{args:α->List Ty}{it:It α}{fp:Nat->Prop}
end

section
variable{ty:TypeId}
end


def o5(l:List (Option Nat×Nat)):OI:={h:=fun n=>l.getD n (none,0)}
def d5(P:Program){A hg ρ:Type}(args:A->List Ty)(Ob:hg->OI->List OE)(res:ρ->Ty)(f:hg->A->Option (ρ×hg)):Ty where
 p:=fun S v=> ∀x y R,f x y=some R-> ∃fid fst cap,v= .func (.func fid) fst cap/\ak P fid=true/\ ∀i w S' vs,SH.le S S' ->kV w S' ->uw S' (args y) vs->dL 0 rn w S' (Ob x i)->
  Calls P fid (fst++vs.toArray++cap) w fun en w' => ∃j v S'',en= .returned v/\(res R.1).p S'' v/\jc (DD (Ob x i)) w S' w' S'' /\kV w' S'' /\dL 0 rn w' S'' (Ob R.2 j)/\ ∀k,DD (Ob R.2 j) k->DD (Ob x i) k\/w.heap.size<=k
 mono:=fun h k x y R hf=>by
  obtain⟨fid,fst,cap,e,hc,hs⟩:=k x y R hf
  exact⟨fid,fst,cap,e,hc,fun i w S' vs hle=>hs i w S' vs (SH.le_trans h hle)⟩
variable{Ob:hg->OI->List OE}
def C5:(d5 P args Ob res (fun _ _=>none)).p S v:=fun _ _ _ h=>by cases h
variable{ats:Array TypeId}{fid:FuncId}{fn:Func}
section
section
variable{ty:TypeId}
def oQ(hc:ak E.P fid=true)(hp:aI E.N G p (K (M b 0)))(hs: ∀x y R,f x y=some R-> ∀i,bd E.P fid (K (M b 0)::args y) (Ob x i) (fun _:OI=>res R.1) (fun j=>Ob R.2 j)):
  b9 E O G ⟨dst,.makeFunc (.func fid) #[p] #[],ty,pos,after,g⟩ (d5 E.P args Ob res f):= .of_pure fun a w S _ _ hf=>by
 have Y:a.eval p=M b 0:=hp S a hf
 refine⟨.func (.func fid) #[M b 0] #[],by simp [execOp,Instr.makeFunc,Y],fun x y R hR=>⟨fid,#[M b 0],#[],rfl,hc,fun i w' S' vs _ hsat hv ho=>?_⟩⟩
 have:=hs x y R hR i w' S' (M b 0::vs) hsat ⟨rfl,hv⟩ ho
 rw [show(#[M b 0]++vs.toArray++ #[]:Array Value)=(M b 0::vs).toArray from by simp]
 exact this
def mP(hc:ak E.P fid=true)(hs: ∀x y R,f x y=some R-> ∀i,bd E.P fid (args y) (Ob x i) (fun _:OI=>res R.1) (fun j=>Ob R.2 j)):
  aI E.N G (.func fid) (d5 E.P args Ob res f):=fun S a _ x y R hR=>
 ⟨fid,#[],#[],rfl,hc,fun i w' S' vs _ hsat hv ho=>by
  rw [show(#[]++vs.toArray++ #[]:Array Value)=vs.toArray from by simp]
  exact hs x y R hR i w' S' vs hsat hv ho⟩
end
def ym{x:hg}{y:A}{R:ρ×hg}{i:OI}{ty:TypeId}{fo:Operand}{xs:List Operand}(Or:List OE)(hO:O=Ob x i++Or)(hf:aI E.N G fo (d5 E.P args Ob res f))(hR:f x y=some R)(V:js E.N G xs (args y))(hpost: ∀j,Ob R.2 j++Or=post j):
  EffOK E O G ⟨some aN,.call ⟨.value fo,xs.toArray,ats⟩,ty,pos,after,g⟩ post (fun _=>res R.1):=fun a w S hsat ho hF W=>by
 subst hO
 obtain rfl:(fun j=>Ob R.2 j++Or)=post:=funext hpost
 obtain⟨fid,fst,cap,e,hc,hs⟩:=hf S a hF x y R hR
 have hr:(execOp a.eval ⟨some aN,.call ⟨.value fo,xs.toArray,ats⟩,ty,pos,after,g⟩).run E.P w= .ok (.enter fid (fst++(xs.map a.eval).toArray++cap)) w:=by
  simp [execOp,resolve,e,Deferred.ofValue,invoke,gA hc]
 refine⟨fun c h=>(by cases h),?_⟩
 rw [hr]
 exact(hs i w S _ (SH.le_refl _) hsat (V.tys hF) (ow ho).1.weak).mono fun en w' ⟨j,v,S',he,hv,Y,H,Q,h4⟩=>⟨_,he,v,S',j,rfl,Y.more fun b ⟨f,hf,W⟩=>⟨f,AH _ hf,W⟩,H,dL.turn ho W Y Q h4,hv⟩
section
variable{N:Nat}{w0:World}{S0:SH}{O1:List OE}{ι:Type}{t:ι->Ty}{O2:ι->List OE}
def tg{rvs:List ResultVar}(hr:fn.results=rvs.toArray)(Y:Nat.beq rvs.length 1=false)(h:Lu P ⟨N,[]⟩ G rvs ts)(i:ι)(hO:O=O2 i)(D:t i=tT ts):
  AT ⟨P,⟨N,[]⟩,DD O1,w0,S0,none⟩ (bodyPost P fn (IP ⟨P,⟨N,[]⟩,DD O1,w0,S0,none⟩ O1 t O2)) .ret O G:=fun a w S st=>by
 obtain⟨vs,k1,k2,k3⟩:=h.run st.sat st.facts
 have hne: ¬vs.length=1:=by rw [k3];intro e;rw [e]at Y;cases Y
 refine⟨st.facts.defers,.tuple vs.toArray,?_,yl st rfl i hO (by rw [D];exact⟨vs,rfl,k2⟩)⟩
 have e1:(fn.results.mapM (wP a.tmps)).run P w= .ok vs.toArray w:=by
  rw [hr,List.mapM_toArray,Sem.run_map,k1]
  rfl
 have e3:results fn a.tmps=((fn.results.mapM (wP a.tmps))>>=fun vs=>pure (if h:vs.size=1 then vs[0]else .tuple vs)):=rfl
 rw [e3,rl,e1]
 simp [Result.andThen,hne]
def d9{k:Nat}{x:α}(hr:fn.results= #[.cell k T])(ti:TI P T sz bytes agg z)(hsz:r.sz=sz)(hag:r.agg=agg)(hk:b8 G k=some (cH r x))(i:ι)(hO:O=O2 i)(D:t i=tD r x):
  AT ⟨P,⟨N,[]⟩,DD O1,w0,S0,none⟩ (bodyPost P fn (IP ⟨P,⟨N,[]⟩,DD O1,w0,S0,none⟩ O1 t O2)) .ret O G:=fun a w S st=>by
 obtain⟨b,off,c,U,fr,Y,H,Q⟩:=st.facts.at_ k _ hk
 obtain⟨c',h4,h5⟩:=st.sat.part H (r.len Q)
 rw [<-h5]at Q
 refine⟨st.facts.defers,r.val ((c'.toList.drop off).take r.sz),?_,yl st rfl i hO (by rw [D];exact⟨_,rfl,Q⟩)⟩
 have hl:=jF ti h4 hsz hag Q
 have h1' :a.tmps[k]?.getD undef=Value.pointer (some ⟨b,off,none⟩):=by simpa [Ea] using Y
 simp [results,hr,h1',asAddr,hl]
end
end
variable{et kt:TypeId}{kv:κ->Value}{os:List (Option Nat×Nat)}
section
variable [DecidableEq κ]{k:κ}{t:TypeId}{x i v:Operand}{dst:Option Nat}{ty:TypeId}
def iW{γ:β->Ty}{y:β}(hm:E.P.underlying t=some (.map kt et))(hk:Hc E.P kt kv)(V:aI E.N G x (K (sr b)))(hi:Kg E.N G i (kv k))(hv:aI E.N G v (γ y))
  (h: ∀os',RG E ops h3 rest (xQ (JC γ) kv b none os' (fi m k y)::O) G):
  RG E ops h3 (⟨none,.insert t x i v,ty,pos,after,none⟩::rest) (xQ (JC γ) kv b none os m::O) G:= .of rfl fun a w S st=>by
 have Y:a.eval x=sr b:=V S a st.facts
 have H:a.eval i=kv k:=hi S a st.facts
 have Q:(γ y).p S (a.eval v):=hv S a st.facts
 obtain⟨⟨hp,hfp⟩,hap,hO⟩:=st.own
 obtain⟨hno,hnb,es,clock,e3,e4,hst⟩:=hp
 obtain⟨q,hq,hdk,hinj⟩:=hk
 obtain⟨os1,p1,p2,_⟩:=tS hdk hinj (k:=k) 0 e4
 have hnb1: ∀o∈os1,o.1≠some b:=fun o ho=>by
  rcases p1 o ho with h|h
  ·exact hnb o h
  ·rw [h];exact fun e=>by cases e
 obtain⟨w',os',r,x1,x2,x3,x4⟩:=K0 (hx:=JC γ) (E:=E) (y:=y) (o:=(none,0)) (val:=a.eval v) st.sat hm ⟨q,hq,hdk,hinj⟩ ⟨hno,hnb1,es,clock,e3,p2,hst⟩ ⟨rfl,Q⟩ (fun e=>by cases e) (fun _ _ _ e=>by cases e)
 have hrun:(execOp a.eval ⟨none,.insert t x i v,ty,pos,after,none⟩).run E.P w= .ok .skip w' :=by simp [execOp,Y,H,r]
 refine⟨fun c h=>(by cases h),?_⟩
 rw [hrun]
 have hfp' : ∀j,(xQ (JC γ) kv b none os' (fi m k y)).fp j->(xQ (JC γ) kv b none os m).fp j:=fun j hj=>by
  rcases x4 j hj with(h|⟨o,ho,e⟩)|e
  ·exact .inl h
  ·rcases p1 o ho with h|h
   ·exact .inr ⟨o,h,e⟩
   ·rw [h]at e;cases e
  ·cases e
 exact h os' _ _ S ⟨st.ext.step x1 (fun c hc=>hfp c (.inl hc)),x2,⟨⟨x3,fun j hj=>hfp j (hfp' j hj)⟩,fun f hf j hj=>hap f hf j (hfp' j hj),hO.ext x1 fun f hf j hj hjb=>hap f hf j (.inl hjb) hj⟩,st.facts⟩
end

def DL{κ β:Type}(γ:β->Ty)(kv:κ->Value)(S:SH):List MapEntry->List (κ×β)->Prop
 |[],[]=>True
 |e::es,q::m=>e.key=kv q.1/\(γ q.2).p S e.val/\(∀p∈m,p.1≠q.1)/\DL γ kv S es m
 |_,_=>False
def xh{κ β:Type}{γ:β->Ty}{kv:κ->Value}{S S' :SH}(h:SH.le S S'): ∀{es:List MapEntry} {m:List (κ×β)},DL γ kv S es m->DL γ kv S' es m
 |[],[],_=>trivial
 |_::_,q::_,⟨Y,H,Q,h4⟩=>⟨Y,(γ q.2).mono h H,Q,xh h h4⟩
def Ns{κ β:Type} [DecidableEq κ]{γ:β->Ty}{kv:κ->Value}{w:World}{S:SH}: ∀{es:List MapEntry} {os:List (Option Nat×Nat)} {m:List (κ×β)},ut (JC γ) kv w S none es os m->DL γ kv S es m
 |[],[],[],_=>trivial
 |_::_,_::_,_::_,⟨Y,H,_,h4,h5⟩=>⟨Y,by rw [aZ (by simp)]at H;exact H.2,h4,Ns h5⟩
def NT{κ β:Type} [DecidableEq κ]{γ:β->Ty}{kv:κ->Value}{w:World}{S:SH}: ∀{es:List MapEntry} {m:List (κ×β)},DL γ kv S es m->ut (JC γ) kv w S none es (m.map fun _=>(none,0)) m
 |[],[],_=>trivial
 |_::_,_::_,⟨Y,H,Q,h4⟩=>⟨Y,by rw [aZ (by simp)];exact⟨rfl,H⟩,fun _ _ _ h=>(by cases h),Q,NT h4⟩
def Tj{κ β:Type}(γ:β->Ty)(kv:κ->Value)(m:List (κ×β)):Ty where
 p:=fun S v=> ∃b es clock,v=sr b/\S b=some (.map es clock)/\DL γ kv S es.toList m
 mono:=fun h ⟨b,es,cl,e,Y,H⟩=>by
  obtain⟨o',Q,h4⟩:=h b _ Y
  have h5:o' = .map es cl:=h4
  subst h5
  exact⟨b,es,cl,e,Q,xh h H⟩
section
variable{c:Code} [DecidableEq κ]{k:κ}{t:TypeId}{x i:Operand}{γ:β->Ty}{dst:Option Nat}{ty:TypeId}
def Gd{z:β}{zv:Value}(hm:E.P.underlying t=some (.map kt et))(hk:Hc E.P kt kv)(hz:ZV E.P et zv)(hzt: ∀S,(γ z).p S zv)(V:aI E.N G x (Tj γ kv m))(hi:Kg E.N G i (kv k)):
  b9 E O G ⟨dst,.lookup t x i false,ty,pos,after,g⟩ (γ ((sq m k).getD z)):= .of_pure fun a w S hs ho hf=>by
 obtain⟨b,es,clock,Y,Q,h4⟩:=V S a hf
 obtain⟨o',h5,h6⟩:=hs b _ Q
 have h7:o' = .map es clock:=h6
 subst h7
 obtain⟨q,hq,hd,hinj⟩:=hk
 have H:a.eval i=kv k:=hi S a hf
 obtain⟨_,_,_,h8⟩:=tS hd hinj (k:=k) 0 (NT (w:=w) h4)
 rcases h8 with⟨g1,g2⟩|⟨y,o,e,j,g1,g2,g3,g4,g5⟩
 ·refine⟨zv,by simp [execOp,Y,H,pB hm hq (hd k) h5 hz g2],by rw [g1];exact hzt S⟩
 ·refine⟨e.val,by simp [execOp,Y,H,pB hm hq (hd k) h5 hz g4],by rw [g1];exact g3.2⟩
def St.settleMp{j:Nat}(h:St E (xQ (JC γ) kv b none os m::O) G a w S)(hk:b8 G j=some (K (sr b))): ∃S',St E O ((j,Tj γ kv m)::G) a w S' :=by
 obtain⟨⟨hn,_,es,clock,Q,h4,_⟩,_⟩:=h.own.1
 obtain⟨h8,hle,_,_⟩:=wO h (.inl rfl) Q (qY _) hn
 have hv:a.tmps.getD j undef=sr b:=h.facts.at_ j _ hk
 exact⟨_,h8.cons ⟨b,es,clock,hv,by simp [SH.set],xh hle (Ns h4)⟩⟩
def He{e:Exit}(j:Nat)(hk:b8 G j=some (K (sr b)))(h:AT E h3 e O ((j,Tj γ kv m)::G)):AT E h3 e (xQ (JC γ) kv b none os m::O) G:=
 fun a w _ st=>let⟨S',st'⟩:=st.settleMp hk;h a w S' st'
end

section
variable{ty:TypeId}
end
open Go.MapKept (Stamped)
section
variable [DecidableEq κ]
end
section
variable{c:Code} [DecidableEq κ]{r:Nat}{left:List κ}{cur:Option κ}{k:κ}{t:TypeId}{x i v:Operand}{dst:Option Nat}{ty:TypeId}
end
open Go.RowKit

def kM(xs:List Int):NL:=xs.map fun n=>UInt8.ofNat n.toNat
def Bw: ∀(xs:List Int) (r:ByteArray),xs.foldl (fun r n=>r.push (UInt8.ofNat n.toNat)) r=⟨r.data++(kM xs).toArray⟩
 |[],r=>by simp [kM]
 |x::xs,r=>by
  rw [List.foldl_cons,Bw xs]
  simp [kM,ByteArray.push]
def xI{k:IntKind}{S:SH}: ∀{xs:List Int} {cs:List Value},o4 (rI k) S cs xs->cs=xs.map (Value.int k)
 |[],cs,h=>by rw [show cs=[]from h];rfl
 |x::xs,cs,⟨a,b,e,Y,H⟩=>by
  rw [e,show a=[.int k x]from Y,xI H]
  rfl
section
variable{c:Code}{ty:TypeId}
def y0{xs:List Int}{x:Operand}{dt:TypeId}(hs:E.P.underlying st=some (.slice e))(he:E.P.underlying e=some (.int .u8))(hd:E.P.underlying dt=some .string)(ti:TI E.P e sz bytes agg z)(hsz:Nat.beq sz 1=true)(V:aI E.N G x (tD (gr (rI .u8)) xs)):b9 E O G ⟨dst,.convert st dt x,ty,pos,after,g⟩ (tD rS (kM xs)):= .of_pure fun a w S hsat _ hf=>by
 obtain⟨ad,cap,hv,hle,hmax,hsl⟩:=jR.1 (V S a hf)
 refine⟨.string ⟨(kM xs).toArray⟩,?_,yP.2 rfl⟩
 have key: ∀(ad:Option Addr),Db (rI .u8) S ad xs->(ad=none->xs=[])->(Conv.bytesToString (.slice ad xs.length cap)).run E.P w= .ok (.string ⟨(kM xs).toArray⟩) w:=fun ad h h0=>by
  cases ad with
  |none=>rw [h0 rfl];rfl
  |some p=>
   have hl:(loadCells p xs.length).run E.P w= .ok (xs.map (Value.int .u8)).toArray w:=by
    rcases h with h|⟨b,off,cc,T,fr,Y,H,Q⟩
    ·rw [h];rfl
    ·cases Y
     obtain⟨c',h4,h5⟩:=hsat.part H (jl Q)
     have h6:xs.length*(rI .u8).sz=xs.length:=by show xs.length*1=_;omega
     rw [h6]at Q h5
     have h7:=xI Q
     exact sK h4 (h5.trans h7) (by simp)
   rw [run_bytesToString w p xs.length cap xs hl,Bw]
   simp [ByteArray.empty,ByteArray.emptyWithCapacity]
   rfl
 simp [execOp,hv,run_convert_bytes_string w st dt e _ _ _ hs he hd,key ad hsl (fun h=>by
  rcases hsl with Y|⟨b,off,cc,T,fr,Y,_⟩
  ·exact Y
  ·rw [h]at Y;cases Y)]
end

abbrev NG:=Nat->(Option Nat×Nat)×(Nat->Option Nat×Nat)
inductive NPl where
 |o
 |i (k:Nat)
 |l (k j:Nat)
section
def hd2(q:Nat->Option Nat×Nat)(zs:List (List α)):List Value:=zs.mapIdx fun j z=>an (q j).1 (q j).2 z.length
def hd1(prj:β->List (List α))(g:NG)(x:List β):List Value:=x.mapIdx fun k y=>an (g k).1.1 (g k).1.2 (prj y).length
def nsB(prj:β->List (List α))(l:Option Nat)(g:NG)(x:List β)(h:Option (Nat×Nat)):NPl->Option Nat
 | .o=>l
 | .i k=>(x[k]?).bind fun _=>(g k).1.1
 | .l k j=>if h=some (k,j)then none else((x[k]?).bind fun y=>(prj y)[j]?).bind fun _=>((g k).2 j).1
structure nstP(prj:β->List (List α))(r:Rp α)(T1 T2 T3:TypeId)(l:Option Nat)(cap n:Nat)(g:NG)(x:List β)(h:Option (Nat×Nat))(w:World)(S:SH):Prop where
 len:x.length=n
 out:xj false rV T1 l cap (hd1 prj g x) w S
 inn: ∀k y,x[k]? =some y->xj false rV T2 (g k).1.1 (g k).1.2 (hd2 (g k).2 (prj y)) w S
 lvs: ∀k y j z,x[k]? =some y->(prj y)[j]? =some z->h≠some (k,j)->xj true r T3 ((g k).2 j).1 ((g k).2 j).2 z w S
 inj: ∀ae t b,nsB prj l g x h ae=some b->nsB prj l g x h t=some b->ae=t
variable{prj:β->List (List α)}{T1 T2 T3:TypeId}{l:Option Nat}{g:NG}{x:List β}{h:Option (Nat×Nat)}
end
section
variable{prj:β->List (List α)}{T1 T2 T3:TypeId}{l:Option Nat}{g:NG}{x:List β}{h:Option (Nat×Nat)}
variable{c:Code}{ty:TypeId}{gd:Option (Nat×Bool)}
open Classical in
noncomputable def VT(w:World)(S:SH)(P:Nat->Prop):SH:=fun b=>if P b then w.heap[b]? else S b
def g0(hs:List (Option Nat×Nat)):NG:=fun k=>(hs.getD k (none,0),fun _=>(none,0))
def tsB(l:Option Nat)(q:Nat->Option Nat×Nat)(zs:List (List α))(h:Option Nat):Option Nat->Option Nat
 |none=>l
 |some j=>if h=some j then none else(zs[j]?).bind fun _=>(q j).1
structure rowP(r:Rp α)(T2 T3:TypeId)(l:Option Nat)(cap n:Nat)(q:Nat->Option Nat×Nat)(zs:List (List α))(h:Option Nat)(w:World)(S:SH):Prop where
 len:zs.length=n
 inn:xj false rV T2 l cap (hd2 q zs) w S
 lvs: ∀j z,zs[j]? =some z->h≠some j->xj true r T3 (q j).1 (q j).2 z w S
 inj: ∀ae t b,tsB l q zs h ae=some b->tsB l q zs h t=some b->ae=t
variable{q:Nat->Option Nat×Nat}{zs:List (List α)}{k:Option Nat}
end

def CM(es:List Bool)(done:Array Bool):List Nat:=(List.range es.length).filter fun k=>(es[k]?).getD false&&done.getD k false
def OQ(es:List Bool)(i:Nat)(ae:List Nat):List Nat:=(List.range es.length).filter fun k=>Nat.beq k i||ae.contains k
def SF:List Nat->List Nat->Bool
 |[],[]=>true
 |a::ae,b::t=>Nat.beq a b&&SF ae t
 |_,_=>false
def IN: ∀{ae t:List Nat},SF ae t=true->ae=t
 |[],[],_=>rfl
 |a::ae,b::t,h=>by
  simp only [SF,iO]at h
  rw [nk h.1,IN h.2]
 |[],_::_,h=>by cases h
 |_::_,[],h=>by cases h
def LM:List (List Nat×((Nat->OI)->List OE))->List Nat->(Nat->OI)->List OE
 |[],_,_=>[]
 |p::r,ae,σ=>bif SF p.1 ae then p.2 σ else LM r ae σ
def xP{k:Nat}:k∈CM es done↔es[k]? =some true/\done.getD k false=true:=by
 unfold CM
 rw [List.mem_filter,List.mem_range,iO]
 constructor
 ·rintro⟨Y,H,Q⟩
  refine⟨?_,Q⟩
  rw [sx Y]at H ⊢
  simpa using H
 ·rintro⟨Y,H⟩
  exact⟨(pZ.1 Y).1,by rw [Y];rfl,H⟩
def Lq{i:Nat}(h:es[i]? =some false):CM es (done.setIfInBounds i true)=CM es done:=by
 unfold CM
 refine List.filter_congr fun k hk=>?_
 by_cases hik:i=k
 ·subst hik;rw [h];rfl
 ·rw [ub false hik]
def PM{i:Nat}(h:es[i]? =some true)(hs:i<done.size):CM es (done.setIfInBounds i true)=OQ es i (CM es done):=by
 unfold OQ
 conv=>lhs;unfold CM
 refine List.filter_congr fun k hk=>?_
 by_cases hik:i=k
 ·subst hik;simp [h,hs]
 ·rw [ub false hik]
  have W:Nat.beq k i=false:=by
   cases W:Nat.beq k i with
   |false=>rfl
   |true=>exact absurd (nk W).symm hik
  rw [W,sy,Cl,Fi,xP,iO]
  constructor
  ·rintro⟨Y,H⟩
   refine⟨?_,H⟩
   cases he:es[k]? with
   |none=>rw [he]at Y;cases Y
   |some b=>rw [he]at Y;simpa using Y
  ·rintro⟨Y,H⟩
   exact⟨by rw [Y];rfl,H⟩
def C8:List Nat->List (List Nat)
 |[]=>[[]]
 |k::l=>(C8 l).map (k:: ·)++C8 l
def Aa(es:List Bool):List Nat:=(List.range es.length).filter fun k=>(es[k]?).getD false
def vg(p:Nat->Bool): ∀l:List Nat,l.filter p∈C8 l
 |[]=>Cp.2 rfl
 |k::l=>by
  unfold C8
  rw [xo]
  by_cases h:p k=true
  ·rw [List.filter_cons_of_pos h]
   exact .inl (Az.2 ⟨_,vg p l,rfl⟩)
  ·rw [List.filter_cons_of_neg h]
   exact .inr (vg p l)
def Nx(es:List Bool)(done:Array Bool):CM es done∈C8 (Aa es):=by
 have:CM es done=(Aa es).filter fun k=>done.getD k false:=by
  unfold CM Aa
  rw [List.filter_filter]
  refine List.filter_congr fun k _=>Bool.and_comm ..
 rw [this]
 exact vg _ _
def V6(L:List Oper)(es:List Bool)(i:Nat)(ae:List Nat):Bool:=
 ae.contains i||(Aa es).any fun k=>if ae.contains k then mo L L.length k i||(Aa es).any fun j=> !ae.contains j&&mo L L.length k j else mo L L.length i k
def Kn(L:List Oper)(es:List Bool)(i:Nat)(aas:List (List Nat)):Bool:=(C8 (Aa es)).all fun ae=>V6 L es i ae||aas.any fun a=>SF a ae
def Hd{α:Type}(p:α->Prop):List α->Prop
 |[]=>True
 |a::l=>p a/\Hd p l
def Hd.mem{p:α->Prop}: ∀{l:List α},Hd p l-> ∀a∈l,p a
 |_::_,⟨h,_⟩,_,.head _=>h
 |_::_,⟨_,h⟩,_,.tail _ hm=>Hd.mem h _ hm
abbrev SX:=List (List Nat×((Nat->OI)->List OE))
def DT(E:En)(G:kN)(L:List Oper)(ts:List TS)(Ss:SX)(es0:List Bool):Nat->List Oper->List Bool->Prop
 |_,[],_=>True
 |i,o::rest,false::es=>(∃(needs:List NS) (t:TS) (aas:List (List Nat)),ts[i]? =some t/\uh G ts needs/\(needs.all fun n=>nm L o i (n.at fun _=>j8))=true/\dK i o=true/\Lr L es0 i t=true/\Kn L es0 i aas=true/\o.dst.isSome=true/\
   Hd (fun ae=> ∀σ,co E (LM Ss ae σ) L.toArray (ue needs σ) o (t.at σ)) aas)/\DT E G L ts Ss es0 (i+1) rest es
 |i,o::rest,true::es=>(∃(needs:List NS) (t:TS) (aas:List (List Nat×List Nat)),ts[i]? =some t/\uh G ts needs/\(needs.all fun n=>nm L o i (n.at fun _=>j8))=true/\dK i o=true/\Lr L es0 i t=true/\Kn L es0 i (aas.map (·.1))=true/\(aas.all fun p=>SF (OQ es0 i p.1) p.2)=true/\
   Hd (fun p:List Nat×List Nat=> ∀σ,lx E L.toArray (LM Ss p.1 σ) (ue needs σ) o (fun x=>LM Ss p.2 (Kp σ i x)) (fun x=>t.at (Kp σ i x))) aas)/\DT E G L ts Ss es0 (i+1) rest es
 |_,_::_,[]=>False
def DT.get{ts:List TS}{Ss:SX}{es0:List Bool}: ∀(r:List Oper) (es:List Bool) (k:Nat),DT E G L ts Ss es0 k r es-> ∀(j:Nat) (o:Oper),r[j]? =some o->
    ∃e,es[j]? =some e/\ ∃(needs:List NS) (t:TS),ts[k+j]? =some t/\uh G ts needs/\(needs.all fun n=>nm L o (k+j) (n.at fun _=>j8))=true/\dK (k+j) o=true/\Lr L es0 (k+j) t=true/\
      (match e with
       |false=>o.dst.isSome=true/\ ∃aas,Kn L es0 (k+j) aas=true/\Hd (fun ae=> ∀σ,co E (LM Ss ae σ) L.toArray (ue needs σ) o (t.at σ)) aas
       |true=> ∃aas:List (List Nat×List Nat),Kn L es0 (k+j) (aas.map (·.1))=true/\(aas.all fun p=>SF (OQ es0 (k+j) p.1) p.2)=true/\Hd (fun p:List Nat×List Nat=> ∀σ,lx E L.toArray (LM Ss p.1 σ) (ue needs σ) o (fun x=>LM Ss p.2 (Kp σ (k+j) x)) (fun x=>t.at (Kp σ (k+j) x))) aas):=by
  intro r
  induction r with
  |nil=>intro es k _ j o h;simp at h
  |cons p r ih=>
    intro es k h j o ho
    cases es with
    |nil=>exact h.elim
    |cons e es=>
      cases e with
      |false=>
        obtain⟨⟨needs,t,aas,g1,g2,g3,g4,g5,g6,g7,g8⟩,H⟩:=h
        cases j with
        |zero=>
          simp at ho;subst ho
          exact⟨false,rfl,needs,t,g1,g2,g3,g4,g5,g7,aas,g6,g8⟩
        |succ j=>
          obtain⟨e',g1,g2⟩:=ih es (k+1) H j o (by simpa using ho)
          refine⟨e',by simpa using g1,?_⟩
          rw [show k+1+j=k+(j+1)from by omega]at g2
          exact g2
      |true=>
        obtain⟨⟨needs,t,aas,g1,g2,g3,g4,g5,g6,g7,g8⟩,H⟩:=h
        cases j with
        |zero=>
          simp at ho;subst ho
          exact⟨true,rfl,needs,t,g1,g2,g3,g4,g5,aas,g6,g7,g8⟩
        |succ j=>
          obtain⟨e',g1,g2⟩:=ih es (k+1) H j o (by simpa using ho)
          refine⟨e',by simpa using g1,?_⟩
          rw [show k+1+j=k+(j+1)from by omega]at g2
          exact g2
structure QH(E:En)(G:kN)(l:List Oper)(ts:List TS)(Ss:SX)(es:List Bool)(done:Array Bool)(a:Act)(w:World)(S:SH)(σ:Nat->OI):Prop where
 ext:jc E.B E.w0 E.S0 w S
 sat:kV w S
 own:dL E.base E.B w S (LM Ss (CM es done) σ)
 size:a.tmps.size=E.N.n
 defers:a.defers=E.N.ds
 dsz:done.size=l.length
 down: ∀j o,l[j]? =some o->done.getD j false=true-> ∀e∈o.after,Region.binds .any e=true->done.getD e.on false=true
 old: ∀k t,b8 G k=some t->(∀j o,l[j]? =some o->done.getD j false=true->o.dst≠some k)->t.p S (a.tmps.getD k undef)
 new: ∀j o aN p,l[j]? =some o->done.getD j false=true->o.dst=some aN->ts[j]? =some p->(p.at σ).p S (a.tmps.getD aN undef)
 deps: ∀j p,done.getD j false=true->ts[j]? =some p-> ∀k∈p.1,done.getD k false=true
section
variable{ts:List TS}{Ss:SX}
def QH.need(h:QH E G L ts Ss es done a w S σ){i:Nat}(hi:L[i]? =some o)(hun:done.getD i true=false)(hwait: ∀e∈o.after,Region.binds .any e=true->done.getD e.on false=true){needs:List NS}(Y:uh G ts needs)(H:(needs.all fun n=>nm L o i (n.at fun _=>j8))=true):bR E.N S a (ue needs σ):=by
 have hlt:i<done.size:=by rw [h.dsz];exact(pZ.1 hi).1
 have hun' :done.getD i false=false:=by
  simp [hlt]at hun ⊢;exact hun
 refine⟨h.size,h.defers,?_⟩
 have key: ∀n∈needs,(n.ty σ).p S (a.tmps.getD n.slot undef):=by
  intro n hn
  have hs:=me.1 H n hn
  have ho:=Y.mem n hn
  unfold nm NS.at at hs
  unfold PX at ho
  cases hsrc:n.src with
  |some j=>
   rw [hsrc]at hs ho
   simp only [iO]at hs
   obtain⟨hs1,hs2⟩:=hs
   cases hj:L[j]? with
   |none=>rw [hj]at hs1;cases hs1
   |some p=>
    rw [hj]at hs1
    cases hd:p.dst with
    |none=>simp only [hd]at hs1;cases hs1
    |some aN=>
     simp only [hd]at hs1
     have hd' :=nk hs1
     subst hd'
     have hdone:done.getD j false=true:=by
      unfold zA at hs2
      obtain⟨e,he0,W⟩:=Aw.1 hs2
      have he:e∈o.after:=by simpa using he0
      simp only [iO]at W
      have:=hwait e he W.2
      rwa [nk W.1]at this
     have hm:=ho σ
     cases hf:ts[j]? with
     |none=>rw [hf]at hm;simp at hm
     |some f=>
      rw [hf]at hm
      have e:f.at σ=n.ty σ:=by simpa using hm
      rw [<-e]
      exact h.new j p n.slot f hj hdone hd hf
  |none=>
   rw [hsrc]at hs ho
   refine h.old _ _ (ho σ) fun j p hj hdone hd=>?_
   have:=me.1 hs p (rm hj)
   simp only [hd,Nat.beq_refl,qK,sy]at this
   unfold zA at this
   obtain⟨e,he0,W⟩:=Aw.1 this
   have he:e∈p.after:=by simpa using he0
   simp only [iO]at W
   have Q:=h.down j p hj hdone e he W.2
   rw [nk W.1]at Q
   rw [Q]at hun'
   cases hun'
 clear Y H
 intro k t hk
 unfold ue at hk
 induction needs with
 |nil=>simp [iD,b8]at hk
 |cons n needs ih=>
  simp only [AA]at hk
  unfold iD b8 at hk
  by_cases W:Nat.beq n.slot k=true
  ·have hb' :Nat.beq (n.at σ).slot k=true:=W
   rw [hb']at hk
   have:=nk W
   subst this
   have h9:some (n.at σ).ty=some t:=by simpa using hk
   have e:n.ty σ=t:=oy h9
   rw [<-e]
   exact key n (nV ..)
  ·rw [yH]at W
   have hb' :Nat.beq (n.at σ).slot k=false:=W
   rw [hb']at hk
   exact ih (fun m hm=>key m (o8 _ hm)) hk
def QH.step{σ' :Nat->OI}(h:QH E G L ts Ss es done a w S σ){i:Nat}{p0:TS}{C:Nat->Prop}(hi:L[i]? =some o)(hdN: ∀aN,o.dst=some aN->aN<E.N.n)(hs2: ∀aN,o.dst=some aN-> ∀j p,L[j]? =some p->done.getD j false=true->p.dst=some aN->i=j)(hwait: ∀e∈o.after,Region.binds .any e=true->done.getD e.on false=true)(D:ts[i]? =some p0)(hun:done.getD i true=false)(hdep: ∀k∈p0.1,k=i\/done.getD k false=true)(hext:jc C w S w' S')(hC: ∀b,C b->E.base<=b\/E.B b)(hsat:kV w' S')(hown:dL E.base E.B w' S' (LM Ss (CM es (done.setIfInBounds i true)) σ'))(hσ: ∀k,k≠i->σ' k=σ k)(hv:(p0.at σ').p S' v):
  QH E G L ts Ss es (done.setIfInBounds i true) (a.put o.dst v) w' S' σ' :=by
 have hlt:i<done.size:=by rw [h.dsz];exact(pZ.1 hi).1
 have hset: ∀j,(done.setIfInBounds i true).getD j false=true->j=i\/done.getD j false=true:=fun j hj=>by
  by_cases hij:i=j
  ·exact .inl hij.symm
  ·rw [ub false hij]at hj;exact .inr hj
 have hseti:(done.setIfInBounds i true).getD i false=true:=by simp [hlt]
 have hun' :done.getD i false=false:=by simp [hlt]at hun ⊢;exact hun
 have hput: ∀k,(∀aN,o.dst=some aN->aN≠k)->(a.put o.dst v).tmps.getD k undef=a.tmps.getD k undef:=fun k hk=>by
  cases hd:o.dst with
  |none=>rfl
  |some aN=>
   have hda:aN<a.tmps.size:=by rw [h.size];exact hdN aN hd
   rw [rA hda,aZ (hk aN hd)]
 refine⟨h.ext.step hext hC,hsat,hown,?_,?_,by simp [h.dsz],fun j p hj hdone e he W=>?_,fun k u hk hno=>?_,fun j p d' u hj hdone hd' hu=>?_,fun j u hj hu k hk=>?_⟩
 ·cases o.dst with
  |none=>exact h.size
  |some aN=>simp [Act.put,h.size]
 ·cases o.dst with
  |none=>exact h.defers
  |some aN=>exact h.defers
 ·rcases hset j hdone with rfl|hj'
  ·rw [hi]at hj
   have:o=p:=by simpa using hj
   subst this
   exact vW (hwait e he W)
  ·exact vW (h.down j p hj hj' e he W)
 ·rw [hput k fun aN hd e=>hno i o hi hseti (by rw [hd,e])]
  exact u.mono hext.keep (h.old k u hk fun j p hj hdone=>hno j p hj (vW hdone))
 ·by_cases hij:j=i
  ·subst hij
   rw [hi]at hj
   have:o=p:=by simpa using hj
   subst this
   have hda:d' <a.tmps.size:=by rw [h.size];exact hdN d' hd'
   rw [hd',rA hda,bu rfl]
   rw [D]at hu
   have:p0=u:=by simpa using hu
   subst this
   exact hv
  ·have hj' :=(hset j hdone).resolve_left hij
   rw [hput d' fun aN hd e=>by subst e;exact hij (hs2 aN hd j p hj hj' hd').symm]
   have e1:u.at σ' =u.at σ:=congrArg u.2 (Fh fun k hk=>hσ k fun e=>by
     subst e
     rw [h.deps j u hj' hu k hk]at hun';cases hun')
   rw [e1]
   exact Ty.mono _ hext.keep (h.new j p d' u hj hj' hd' hu)
 ·rcases hset j hj with rfl|hj'
  ·rw [D]at hu
   have:p0=u:=by simpa using hu
   subst this
   rcases hdep k hk with rfl|h'
   ·exact hseti
   ·exact vW h'
  ·exact vW (h.deps j u hj' hu k hk)
end
def Fv{l t:List Oper}{ts:List TS}{Ss:SX}(hsl:uI E.N.n [] l=true)(hlen:ts.length=l.length)(hesl:es.length=l.length)(hd:DT E G (l++t) ts Ss es 0 l es)(D:wm (l++t) l.length t.length=true)(hQ: ∀a w S σ,St E (LM Ss (Aa es) σ) (F5 l (NY ts σ) G) a w S->wpListIn (fw E.r) 0 E.P (l++t).toArray h3 t a w):
  ∀(fuel:Nat) (done:Array Bool) (a:Act) (w:World) (S:SH) (σ:Nat->OI),kC done=fuel->(∀j,l.length<=j->done.getD j false=false)->QH E G (l++t) ts Ss es done a w S σ->wpAnyIn (fw E.r) 0 E.P .any (l++t).toArray h3 fuel done a w:=by
 have hL1: ∀i o,i<l.length->(l++t)[i]? =some o->l[i]? =some o:=fun i o hi h=>by rwa [xv hi]at h
 have hL2: ∀i o,l[i]? =some o->(l++t)[i]? =some o:=fun i o h=>by rw [xv (pZ.1 h).1];exact h
 have htail: ∀m o,l.length<=m->(l++t)[m]? =some o->tU (l++t) m=true/\dK m o=true:=fun m o hm ho=>by
  have hml:m<(l++t).length:=(pZ.1 ho).1
  rw [kO]at hml
  unfold wm at D
  have:=me.1 D (m-l.length) (by simp;omega)
  rw [show l.length+(m-l.length)=m from by omega,ho]at this
  simp only [iO]at this
  exact⟨this.1,this.2.1⟩
 have hget:=fun i o (hi:l[i]? =some o)=>DT.get l es 0 hd i o hi
 have hedge: ∀i o,(l++t)[i]? =some o->dK i o=true:=fun i o hi=>by
  rcases m0 i l.length with h|h
  ·obtain⟨_,_,_,_,_,_,_,h,_⟩:=hget i o (hL1 i o h hi)
   simpa using h
  ·exact(htail i o h hi).2
 obtain⟨hs1,hs2⟩:=zD l [] hsl
 have fin: ∀fuel done a w S σ,kC done=fuel->(∀j,l.length<=j->done.getD j false=false)->QH E G (l++t) ts Ss es done a w S σ->(∀i,i<l.length->done.getD i false=true)->wpAnyIn (fw E.r) 0 E.P .any (l++t).toArray h3 fuel done a w:=by
  intro fuel done a w S σ hu hfree h hall
  have hdn:CM es done=Aa es:=by
   unfold CM Aa
   refine List.filter_congr fun k hk=>?_
   rw [hall k (by rw [<-hesl];exact List.mem_range.1 hk),Bool.and_true]
  have hown:=h.own
  rw [hdn]at hown
  refine wH (n:=l.length) (fun m o hm ho=>(htail m o hm ho).1) hedge t l.length done fuel a w (jW _) (by simp) h.dsz (fun j hj=>⟨fun hjd=>?_,fun hlt=>hall j hlt⟩) hu
   (hQ a w S σ ⟨h.ext,h.sat,hown,h.size,h.defers,fun j u hj=>?_⟩)
  ·rcases m0 j l.length with h' |h'
   ·exact h'
   ·rw [hfree j h']at hjd;cases hjd
  ·rcases Dz l (NY ts σ) j u (by unfold NY;rw [CQ];exact hlen) hj with⟨i,o,Y,H,Q⟩|⟨Y,H⟩
   ·unfold NY at Q
    rw [List.getElem?_map]at Q
    cases hf:ts[i]? with
    |none=>rw [hf]at Q;simp at Q
    |some f=>
     rw [hf]at Q
     have e:f.at σ=u:=by simpa using Q
     rw [<-e]
     exact h.new i o j f (hL2 i o Y) (hall i (pZ.1 Y).1) H hf
   ·refine h.old j u Y fun i o ho hdn=>?_
    rcases m0 i l.length with h' |h'
    ·exact H o (rm (hL1 i o h' ho))
    ·rw [hfree i h']at hdn;cases hdn
 have lower: ∀done a w S σ i,(∀j,l.length<=j->done.getD j false=false)->QH E G (l++t) ts Ss es done a w S σ->i∈Region.ready .any (l++t).toArray done->l.length<=i-> ∀j,j<l.length->done.getD j false=true:=by
  intro done a w S σ i hfree h hi hge j hj
  obtain⟨hun,p,hp,hwait⟩:=qN.1 hi
  have hp' :(l++t)[i]? =some p:=by simpa using hp
  have hcov:=(htail i p hge hp').1
  unfold tU at hcov
  have hre:=me.1 hcov j (by simp;omega)
  exact fz h.down _ i j (fun q hq e he W=>by
   have:q=p:=by rw [hp']at hq;simpa using hq.symm
   subst this
   exact hwait e he W) hre
 intro fuel
 induction fuel with
 |zero=>
  intro done a w S σ hu hfree h
  exact fin 0 done a w S σ hu hfree h fun i hi=>ru hu (by rw [h.dsz,kO];omega)
 |succ fuel ih=>
  intro done a w S σ hu hfree h
  by_cases hall: ∀i,i<l.length->done.getD i false=true
  ·exact fin _ done a w S σ hu hfree h hall
  have hready0: ∀m i,i<m->i<l.length->Region.ready .any (l++t).toArray done=[]->done.getD i false=true:=by
   intro m
   induction m with
   |zero=>intro i h;omega
   |succ m ihm=>
    intro i him hil hr
    have his:i<done.size:=by rw [h.dsz,kO];omega
    by_cases hdn:done.getD i true=true
    ·rw [<-m9 his];exact hdn
    ·exfalso
     obtain⟨o,ho⟩: ∃o,(l++t)[i]? =some o:=⟨l[i],hL2 i _ (sx hil)⟩
     have hmem:i∈Region.ready .any (l++t).toArray done:=by
      rw [qN]
      refine⟨by simpa using hdn,o,by simpa using ho,fun e he W=>?_⟩
      have:=hedge i o ho
      unfold dK at this
      have:=me.1 this e (by simpa using he)
      simp only [W,qK,sy,r0]at this
      exact ihm e.on (by omega) (by omega) hr
     rw [hr]at hmem;cases hmem
  refine⟨fun hr=>absurd (fun i hi=>hready0 (i+1) i (by omega) hi hr) hall,fun i hi=>?_⟩
  have hil:i<l.length:=by
   rcases m0 i l.length with h' |h'
   ·exact h'
   ·exact absurd (lower done a w S σ i hfree h hi h') hall
  obtain⟨hun,o,ho,hwait⟩:=qN.1 hi
  have ho' :(l++t)[i]? =some o:=by simpa using ho
  have hol:=hL1 i o hil ho'
  obtain⟨e,he,needs,u,Y,H,Q,_,h4,h5⟩:=hget i o hol
  rw [uj]at Y Q h4
  have hF:=h.need ho' hun hwait H Q
  have his:i<done.size:=by rw [h.dsz,kO];omega
  have hun' :done.getD i false=false:=by rw [<-m9 his];exact hun
  have hu' :kC (done.setIfInBounds i true)=fuel:=by have:=pb hun;omega
  have huq: ∀aN,o.dst=some aN-> ∀j p,(l++t)[j]? =some p->done.getD j false=true->p.dst=some aN->i=j:=fun aN hdd j p hj hjd hpd=>by
   rcases m0 j l.length with h' |h'
   ·exact hs2 i j o p aN hol (hL1 j p h' hj) hdd hpd
   ·rw [hfree j h']at hjd;cases hjd
  have hfree' : ∀j,l.length<=j->(done.setIfInBounds i true).getD j false=false:=fun j hj=>by
   rw [ub false (by omega)];exact hfree j hj
  have hbl:E.base<=w.heap.size:=h.ext.size
  have hwaits: ∀q,(l++t)[i]? =some q-> ∀e∈q.after,Region.binds .any e=true->done.getD e.on false=true:=fun q hq e he W=>by
   have:q=o:=by rw [ho']at hq;simpa using hq.symm
   subst this
   exact hwait e he W
  have hdpp: ∀k∈u.1,k=i\/done.getD k false=true:=fun k hk=>by
   have:=me.1 h4 k hk
   simp only [iO,xn]at this
   rcases this.2 with W|W
   ·exact .inl (nk W)
   ·exact .inr (fz h.down _ i k hwaits W)
  have hdNN: ∀aN,o.dst=some aN->aN<E.N.n:=fun aN hd=>(hs1 o (rm hol) aN hd).1
  unfold wpOpIn
  rw [ho]
  show if _ then _ else _
  -- just these effects stand
  have hpos:V6 (l++t) es i (CM es done)=false:=by
   rw [AD]
   intro hno
   unfold V6 at hno
   rw [xn]at hno
   rcases hno with hc|hc
   ·have:=(xP.1 (Fi.1 hc)).2
    rw [this]at hun';cases hun'
   ·obtain⟨k,hk1,hk2⟩:=Aw.1 hc
    have hke:es[k]? =some true:=by
     unfold Aa at hk1
     rw [List.mem_filter,List.mem_range]at hk1
     have h7:=hk1.2
     rw [sx hk1.1]at h7 ⊢
     simpa using h7
    by_cases hin:(CM es done).contains k=true
    ·rw [bu hin,xn]at hk2
     have hkd:=(xP.1 (Fi.1 hin)).2
     rcases hk2 with W|W
     ·have:=fz h.down _ k i (fun q hq e he W=>h.down k q hq hkd e he W) W
      rw [this]at hun';cases hun'
     ·obtain⟨j,hj1,hj2⟩:=Aw.1 W
      rw [iO,Cm]at hj2
      have hje:es[j]? =some true:=by
       unfold Aa at hj1
       rw [List.mem_filter,List.mem_range]at hj1
       have h7:=hj1.2
       rw [sx hj1.1]at h7 ⊢
       simpa using h7
      have hjd:=fz h.down _ k j (fun q hq e he W=>h.down k q hq hkd e he W) hj2.2
      have:=Fi.2 (xP.2 ⟨hje,hjd⟩)
      rw [hj2.1]at this;cases this
    ·rw [aZ hin]at hk2
     have hkd:=fz h.down _ i k hwaits hk2
     exact hin (Fi.2 (xP.2 ⟨hke,hkd⟩))
  have hwin: ∀aas:List (List Nat),Kn (l++t) es i aas=true->CM es done∈aas:=by
   intro aas hw
   unfold Kn at hw
   have:=me.1 hw _ (Nx es done)
   rw [hpos,sy]at this
   obtain⟨b,hb1,hb2⟩:=Aw.1 this
   rw [<-IN hb2];exact hb1
  cases e with
  |false=>
   simp only at h5
   obtain⟨hdS,aas,hw,h5⟩:=h5
   rw [uj]at hw
   obtain⟨aN,hdd⟩:=Option.isSome_iff_exists.1 hdS
   have h6:=h5.mem _ (hwin aas hw) σ a w S h.sat h.own hF
   have hdq:=Lq (done:=done) he
   by_cases hw:Region.wanted o (yielded (l++t).toArray a.tmps)=true
   ·rw [bu hw]at h6 ⊢
    refine j9 (fun a' w' ⟨v,S',ha,V,hs,hv⟩=>?_) h6
    subst ha
    exact ih _ _ _ S' _ hu' hfree' (h.step ho' hdNN huq hwait Y hun hdpp V (fun _ W=>W.elim) hs (by rw [hdq];exact h.own.ext0 V) (fun _ _=>rfl) hv)
   ·rw [aZ hw]at h6 ⊢
    exact⟨fun _ _=>trivial,ih _ _ _ S _ hu' hfree' (h.step ho' hdNN huq hwait Y hun hdpp (ib rn _ _) (fun _ W=>W.elim) h.sat (by rw [hdq];exact h.own) (fun _ _=>rfl) h6)⟩
  |true=>
   simp only [uj]at h5
   obtain⟨aas,hw,hins,h5⟩:=h5
   obtain⟨p,hp1,hp2⟩:=Az.1 (hwin _ hw)
   have hp3:=IN (me.1 hins p hp1)
   have h6:=h5.mem p hp1 σ a w S h.sat (by rw [hp2];exact h.own) hF hbl
   have hdq:CM es (done.setIfInBounds i true)=p.2:=by rw [PM he his,<-hp2,hp3]
   by_cases hw:Region.wanted o (yielded (l++t).toArray a.tmps)=true
   ·rw [bu hw]at h6 ⊢
    refine j9 (fun a' w' ⟨v,S',x,ha,V,hs,hown,hv⟩=>?_) h6
    subst ha
    exact ih _ _ _ S' _ hu' hfree' (h.step ho' hdNN huq hwait Y hun hdpp V (fun b ⟨f,hf,W⟩=>(dL.mem h.own f (by rw [<-hp2];exact hf)).2 b W) hs (by rw [hdq];exact hown) (fun k hk=>Ef σ x hk) hv)
   ·rw [aZ hw]at h6 ⊢
    obtain⟨x,hown,hv⟩:=h6
    exact⟨fun _ _=>trivial,ih _ _ _ S _ hu' hfree' (h.step ho' hdNN huq hwait Y hun hdpp (ib rn _ _) (fun _ W=>W.elim) h.sat (by rw [hdq];exact hown) (fun k hk=>Ef σ x hk) hv)⟩
def NU{id:Nat}(m:Nat)(ts:List TS)(es:List Bool)(Ss:SX)(hO: ∀σ,LM Ss [] σ=O)(hm:E.P.follows .mixedOrders=true)(hsl:uI E.N.n [] (L.take m)=true)(hlen:ts.length=(L.take m).length)(hesl:es.length=(L.take m).length)(D:wm L (L.take m).length (L.drop m).length=true)(hd:DT E G L ts Ss es 0 (L.take m) es)(k: ∀σ:Nat->OI,RG E L.toArray h3 (L.drop m) (LM Ss (Aa es) σ) (F5 (L.take m) (NY ts σ) G)):CG E h3 (.region id L.toArray true) O G:=fun a w S st=>by
 have hL:L=L.take m++L.drop m:=(qL m L).symm
 generalize L.take m=l at hL hsl hlen hesl D hd k
 generalize L.drop m=t at hL D k
 subst hL
 refine wpIn_region_any hm ?_
 obtain⟨he,hs⟩:=vw (w:=w) st.sat
 have hdn0:CM es (Array.replicate (l++t).toArray.size false)=[]:=by
  unfold CM
  refine List.filter_eq_nil_iff.2 fun k hk=>?_
  simp [wE]
  intro _
  split<;>simp
 refine Fv hsl hlen hesl hd D (fun a w S σ st=>k σ a w S st) _ _ _ _ S (fun _=>j8) ?_ (fun j _=>?_)
  ⟨st.ext.step0 he,hs,by rw [hdn0,hO];exact st.own.ext0 he,st.facts.size,st.facts.defers,by simp,fun j o hj hdone=>?_,fun k t hk _=>st.facts.at_ k t hk,fun j o aN t hj hdone=>?_,fun j p hdone=>?_⟩
 ·unfold kC;rw [Jb,I9];simp
 ·simp [wE];split<;>rfl
 ·simp [wE]at hdone
  split at hdone<;>simp at hdone
 ·simp [wE]at hdone
  split at hdone<;>simp at hdone
 ·simp [wE]at hdone
  split at hdone<;>simp at hdone

variable{base:Nat}
def dL.perm{B:Nat->Prop}(h:O.Perm O'):dL base B w S O->dL base B w S O' :=by
 induction h with
 |nil=>exact id
 |cons x p ih=>
  rintro⟨Y,H,Q⟩
  exact⟨Y,fun f hf=>H f (p.mem_iff.2 hf),ih Q⟩
 |swap x y l=>
  rintro⟨Y,H,Q,h4,h5⟩
  refine⟨Q,fun f hf k hk hfk=>?_,Y,fun f hf=>H f (o8 _ hf),h5⟩
  rcases jy.1 hf with rfl|hf
  ·exact H x (nV ..) k hfk hk
  ·exact h4 f hf k hk hfk
 |trans _ _ ih1 ih2=>exact fun k=>ih2 (ih1 k)
def rD(O:List OE):List Nat->List OE
 |[]=>[]
 |i::l=>match O[i]? with
  |some e=>e::rD O l
  |none=>rD O l
def xK(O:List OE): ∀a b:List Nat,rD O (a++b)=rD O a++rD O b
 |[],_=>rfl
 |i::a,b=>by
  simp only [Ax,rD]
  split<;>simp [xK O a b]
def HW{a b:List Nat}(h:a.Perm b):(rD O a).Perm (rD O b):=by
 induction h with
 |nil=>exact .nil
 |cons x p ih=>
  simp only [rD]
  split
  ·exact .cons _ ih
  ·exact ih
 |swap x y l=>
  simp only [rD]
  cases V:O[x]? <;>cases hy:O[y]? <;>simp<;>exact .swap ..
 |trans _ _ ih1 ih2=>exact ih1.trans ih2
def F1(O:List OE):rD O (List.range O.length)=O:=by
 have key: ∀n,n<=O.length->rD O (List.range n)=O.take n:=by
  intro n
  induction n with
  |zero=>intro _;rfl
  |succ n ih=>
   intro h
   rw [List.range_succ,xK,ih (by omega)]
   simp only [rD]
   rw [sx (by omega),LO (by omega)]
 rw [key _ (jW _),Au]
def dL.pick{B:Nat->Prop}(l:List Nat)(hl:l.isPerm (List.range O.length)=true)(h:dL base B w S O):dL base B w S (rD O l):=
 h.perm (by
  have:=HW (O:=O) (List.isPerm_iff.1 hl)
  rw [F1]at this
  exact this.symm)

section
section
variable{ty:TypeId}
end
end
open Go.ChangeShapes Go.WideShapes Go.ChangeAt

variable{h2:Type}{hb:World}{enc:TypeId×Value->h2}
section
def Gj(hb:World):SH:=fun b=>hb.heap[b]?
def Q6(hb:World)(X: ∀p∈TL,∃c T fr,hb.heap[p.1]? =some (.cells c T fr)/\c.toList.take p.2.length=p.2)(D: ∀w' :World,(∀(b:Nat) (o:Obj),hb.heap[b]? =some o-> ∃o',w'.heap[b]? =some o' /\Fa o o')->Ti w'):kV hb (Gj hb):=⟨fun _ o h=>⟨o,h,qY o⟩,X,D⟩
def QF(enc:TypeId×Value->h2)(P:Program)(hb:World){α:Type}(t:TypeId)(r:Rp α):Prop:=
 P.cellsOf t=r.sz/\ ∀fuel cs x,DataW.trod enc P hb 0 (fun _=>true) true fuel t cs=some x-> ∃y,r.rc (Gj hb) cs y
def vI{α β:Type}{f:α->Option β}: ∀{l:List α} {r:List β},l.mapM f=some r->r.length=l.length/\ ∀(i:Nat) (x:α),l[i]? =some x-> ∃y,r[i]? =some y/\f x=some y
 |[],r,h=>by
  simp at h
  subst h
  exact⟨rfl,fun i x V=>by simp at V⟩
 |a::l,r,h=>by
  rw [List.mapM_cons]at h
  cases hf:f a with
  |none=>rw [hf]at h;simp at h
  |some b=>
   rw [hf]at h
   cases hm:l.mapM f with
   |none=>rw [hm]at h;simp at h
   |some r' =>
    rw [hm]at h
    simp at h
    subst h
    obtain⟨Y,H⟩:=vI hm
    refine⟨by simp [Y],fun i x V=>?_⟩
    cases i with
    |zero=>simp at V;subst V;exact⟨b,rfl,hf⟩
    |succ i=>exact H i x (by simpa using V)
def zj{a:Addr}(h:hb.cell? a=some v):a.spot=none/\ ∃c E fr,hb.heap[a.block]? =some (.cells c E fr)/\c[a.off]? =some v:=by
 unfold World.cell? at h
 cases ho:hb.heap[a.block]? with
 |none=>rw [ho]at h;cases h
 |some o=>
  rw [ho]at h
  cases o with
  |cells c E fr=>
   simp only at h
   by_cases hs:a.spot.isSome=true
   ·rw [bu hs]at h;cases h
   ·rw [aZ hs]at h
    exact⟨by cases hq:a.spot with
     |none=>rfl
     |some ae=>rw [hq]at hs;simp at hs,c,E,fr,rfl,h⟩
  |_=>simp at h
def DW(a:Addr):a.add 0=a:=by unfold Addr.add;rfl
def IV(h:hb.cells? 0 ⟨b,off,none⟩ n=some cs)(hn:0<n): ∃c E fr,hb.heap[b]? =some (.cells c E fr)/\cs=(c.toList.drop off).take n:=by
 unfold World.cells? at h
 rw [bu (nv _)]at h
 obtain⟨Y,H⟩:=vI h
 obtain⟨v,_,hv⟩:=H 0 0 (by simp [hn])
 obtain⟨_,c,E,fr,Q,h4⟩:=zj hv
 refine⟨c,E,fr,by simpa [Addr.add] using Q,?_⟩
 apply List.ext_getElem?
 intro i
 have hl:cs.length=n:=by simpa using Y
 by_cases hi:i<n
 ·obtain⟨v,h5,h6⟩:=H i i (by simp [hi])
  obtain⟨_,c',E',fr',h7,h8⟩:=zj h6
  rw [hZ]at h7 h8
  have h7' :hb.heap[b]? =some (.cells c' E' fr'):=h7
  have h3' :hb.heap[b]? =some (.cells c E fr):=by simpa [Addr.add] using Q
  rw [h3']at h7'
  injection h7' with h7'
  injection h7' with e1
  subst e1
  rw [h5,vX hi,tk]
  simpa using h8.symm
 ·rw [Hk (by omega),Hk (by simp;omega)]
def Kr{q:Rp α}{len:Nat}{a:Addr}{x:DataW h2×List MemPlace}(h0' :0<q.sz)(hq:QF enc P hb e q)(V:(let elemAt (i:Nat):Option (DataW h2×List MemPlace):=(hb.cells? 0 (a.add (i*P.cellsOf e)) (P.cellsOf e)).bind (DataW.trod enc P hb 0 (fun _=>true) true n e)
   if 0<=a.block/\len<=cap/\cap<=maxLen then
    ((List.range len).mapM elemAt).bind fun elems=>
     (if(fun _=>true) a.block then(List.range (cap-len)).mapM fun j=>elemAt (len+j)else some []).map fun rest=>
      (DataW.slice (elems.map (·.1)) (rest.map (·.1)),MemPlace.row a ((elems.length+rest.length)*P.cellsOf e)++(elems++rest).flatMap (·.2))
   else none)=some x): ∃y,(gr q).rc (Gj hb) [.slice (some a) len cap] y:=by
 simp only at V
 split at V
 ·rename_i hcond
  obtain⟨_,hle,hmax⟩:=hcond
  cases hm:(List.range len).mapM (fun i=>(hb.cells? 0 (a.add (i*P.cellsOf e)) (P.cellsOf e)).bind (DataW.trod enc P hb 0 (fun _=>true) true n e))with
  |none=>rw [hm]at V;simp at V
  |some elems=>
   obtain⟨hm1,hm2⟩:=vI hm
   rw [hq.1]at hm2
   by_cases hl0:len=0
   ·subst hl0;exact⟨[],some a,cap,rfl,nv _,hmax,.inl rfl⟩
   have hsp0:a.spot=none:=by
    obtain⟨z,_,hz⟩:=hm2 0 0 (by rw [List.getElem?_range (by omega)])
    rw [Nat.zero_mul,DW]at hz
    cases hcs:hb.cells? 0 a q.sz with
    |none=>rw [hcs]at hz;simp at hz
    |some cs1=>
     unfold World.cells? at hcs
     rw [bu (nv _)]at hcs
     obtain⟨_,g2⟩:=vI hcs
     obtain⟨v,_,hv⟩:=g2 0 0 (by simp [h0'])
     rw [DW]at hv
     exact(zj hv).1
   have hcell: ∀i,i<len-> ∃c E fr,a.spot=none/\hb.heap[a.block]? =some (.cells c E fr)/\ ∃y,q.rc (Gj hb) ((c.toList.drop (a.off+i*q.sz)).take q.sz) y:=by
    intro i hi
    obtain⟨z,_,hz⟩:=hm2 i i (by simp [hi])
    cases hcs:hb.cells? 0 (a.add (i*q.sz)) q.sz with
    |none=>rw [hcs]at hz;simp at hz
    |some cs1=>
     rw [hcs]at hz
     have hsp:a.spot=none:=hsp0
     obtain⟨ab,ao,az⟩:=a
     simp only at hsp
     subst hsp
     rw [hZ]at hcs
     obtain⟨c,E,fr,g1,g2⟩:=IV hcs h0'
     obtain⟨y,hy⟩:=hq.2 n cs1 z hz
     exact⟨c,E,fr,rfl,g1,y,by rw [<-g2];exact hy⟩
   obtain⟨c,E,fr,hsp,W,_⟩:=hcell 0 (by omega)
   have key: ∀m,m<=len-> ∃ys:List α,ys.length=m/\o4 q (Gj hb) ((c.toList.drop a.off).take (m*q.sz)) ys:=by
    intro m
    induction m with
    |zero=>intro _;exact⟨[],rfl,by simp [o4]⟩
    |succ m ih=>
     intro hm'
     obtain⟨ys,hy1,hy2⟩:=ih (by omega)
     obtain⟨c',E',fr',_,hb',y,hy⟩:=hcell m (by omega)
     rw [W]at hb'
     injection hb' with hb'
     injection hb' with e1
     subst e1
     refine⟨ys++[y],by simp [hy1],?_⟩
     have hsplit:(c.toList.drop a.off).take ((m+1)*q.sz)=(c.toList.drop a.off).take (m*q.sz)++(c.toList.drop (a.off+m*q.sz)).take q.sz:=by
      rw [ux,Nat.one_mul,List.take_add,sa]
     rw [hsplit]
     exact pf hy2 (HT.2 hy)
   obtain⟨ys,hy1,hy2⟩:=key len (jW _)
   obtain⟨ab,ao,az⟩:=a
   simp only at hsp
   subst hsp
   exact⟨ys,some ⟨ab,ao,none⟩,cap,by rw [hy1],by omega,hmax,.inr ⟨ab,ao,c,E,fr,rfl,W,by rw [hy1];exact hy2⟩⟩
 ·cases V
def Kq{t:TypeId}{q:Rp α}(h:P.underlying t=some (.slice e))(hc:P.cellsOf t=1)(h0:Nat.blt 0 q.sz=true)(hq:QF enc P hb e q):QF enc P hb t (gr q):=⟨hc,fun fuel cs x V=>by
 have h0' :0<q.sz:=by simpa [r0] using h0
 cases fuel with
 |zero=>simp [DataW.trod]at V
 |succ n=>
  unfold DataW.trod at V
  rw [h]at V
  split at V
  all_goals try (injections;done)
  ·exact⟨[],none,0,rfl,jW _,nv _,.inl rfl⟩
  ·rename_i e' a len cap heq
   injection heq with e1
   injection e1 with e1
   subst e1
   exact Kr h0' hq V⟩
def FU{t:TypeId}(h:QF enc P hb t r)(hag:r.agg=false){aN:DataW h2}{ps:List MemPlace}(hv:DataW.Trod enc P hb 0 (fun _=>true) true t v aN ps)(hc:v.cells= #[v]): ∃y,(tD r y).p (Gj hb) v:=by
 obtain⟨fuel,V⟩:=hv
 rw [hc]at V
 obtain⟨y,hy⟩:=h.2 _ _ _ V
 exact⟨y,_,by unfold Rp.val;rw [hag];rfl,hy⟩

def GS{t:TypeId}(D:P.underlying t=some (.slice e))(hv:Value.okWide P hb .any base t v):v.cells= #[v]:=by
 cases v<;>first|rfl|(simp [Value.okWide,D,Cell.okWide,Cell.ok]at hv)
def EZ{W' :World}(h:jc rn hb S W' S'):Below hb.heap.size hb W' :=⟨h.os,h.tape,h.output,h.size,fun k hk=>h.heap k hk (fun h=>h)⟩
def wk(hl:laidOutB P=true){hb W' :World}(W:Below hb.heap.size hb W'){sp:Nat->Bool}: ∀{ts:List TypeId} {vs:List Value} {ds:List (DataW h2)} {ps:List MemPlace},(∀t∈ts,P.readableRec t=true/\t<P.types.size)->
  DataW.TrodAll enc P hb 0 (fun _=>true) true ts vs ds ps->(∀p∈ps,p.block<hb.heap.size)->(∀p∈ps,sp p.block=true)->DataW.TrodAll enc P W' 0 sp true ts vs ds ps
 |[],[],[],_,_,h,_,_=>h
 |t::ts,v::vs,aN::ds,_,hr,⟨p,q,Y,H,e⟩,hlt,hsp=>by
  subst e
  have D:=hr t (nV ..)
  exact⟨p,q,WideElems.Trod_stays hl D.1 D.2 Y (fun x V=>W.same (hlt x (AH _ V))) (fun x V=>hsp x (AH _ V)),
   wk hl W (fun t D=>hr t (o8 _ D)) H (fun x V=>hlt x (List.mem_append_right _ V)) (fun x V=>hsp x (List.mem_append_right _ V)),rfl⟩
def ML{f:Func}{ae:ChangeSpec}{apart fresh handsOn again:Bool}{W' :World}{args:Array Value}{ds gs:List (DataW h2)}{before:List MemPlace}{tb:TypeId}(hl:laidOutB P=true)(hr: ∀t∈f.params.toList,P.readableRec t=true/\t<P.types.size)(hvs:ae.vars=[])(hres:f.resultTypes= #[tb])(htb:P.underlying tb=some .bool)(hW:DataW.Whole enc P f.params.toList ae.vars apart hb args.toList ds gs before)(hs:ae.fn h2 (ds++gs)={results:=[.lit (.bool true)],args:=ds})(W:Below hb.heap.size hb W'):
  ae.post enc P f apart fresh handsOn again hb args (.bool true) W' :=by
 have hW0:=hW
 have hlt:=hW.lt
 obtain⟨pa,pv,hA,hV,rfl,hz,hn⟩:=hW
 rw [hvs]at hV
 have hpv:pv=[]:=by
  cases gs with
  |nil=>exact hV
  |cons g gs=>exact hV.elim
 subst hpv
 have hlt' : ∀p∈pa,p.block<hb.heap.size:=fun p hp=>hlt p (by simpa using hp)
 have hargs: ∀sp:Nat->Bool,(∀p∈pa,sp p.block=true)->DataW.TrodAll enc P W' 0 sp true f.params.toList args.toList ds pa:=fun sp hsp=>wk hl W hr hA hlt' hsp
 have hresT: ∀(b:Nat) (sp:Nat->Bool) (hd:Bool),DataW.TrodAll enc P W' b sp hd f.resultTypes.toList ((Value.bool true).resultList f.resultTypes.size) [.lit (.bool true)] []:=fun b sp hd=>by
  rw [hres]
  exact⟨[],[],⟨1,by simp [DataW.trod,htb,Value.cells]⟩,rfl,rfl⟩
 have hvT: ∀sp:Nat->Bool,DataW.TrodVars enc P W' sp ae.vars (ae.fn h2 (ds++gs)).vars []:=fun sp=>by
  rw [hvs,hs];rfl
 have hargs' : ∀sp:Nat->Bool,(∀p∈pa,sp p.block=true)->DataW.TrodAll enc P W' 0 sp true f.params.toList args.toList (ae.fn h2 (ds++gs)).args pa:=fun sp hsp=>by rw [hs];exact hargs sp hsp
 have hres' : ∀(b:Nat) (sp:Nat->Bool) (hd:Bool),DataW.TrodAll enc P W' b sp hd f.resultTypes.toList ((Value.bool true).resultList f.resultTypes.size) (ae.fn h2 (ds++gs)).results []:=fun b sp hd=>by rw [hs];exact hresT b sp hd
 have hold: ∀p∈pa,(fun b=>decide (b<hb.heap.size)) p.block=true:=fun p hp=>by simpa using hlt' p hp
 refine⟨ds,gs,pa++[],[],pa,[],hW0,hres' _ _ _,hargs' _ hold,hvT _,World.keptBut_mono (fun p hp=>⟨hp,?_⟩) (W.frame _),fun _=>?_⟩
 ·right;simpa using hp
 ·refine⟨?_,_,_,([]++pa)++[],⟨[]++pa,[],trodAll_append (hargs' _ (fun _ _=>rfl)) (hres' _ _ _),hvT _,rfl,?_,?_⟩,?_⟩
  ·intro j t r Y H
   rw [hres]at Y H
   cases j with
   |zero=>
    simp [Value.resultList]at Y H
    subst Y H
    simp [Value.okWide,htb,Cell.okWide,Cell.ok]
   |succ j=>simp at Y
  ·intro b off hp
   have hp' :MemPlace.cell b off∈pa:=by simpa using hp
   have:=hlt' _ hp'
   rw [W.frozen (p:=⟨b,off,none⟩) this]
   exact hz b off (by simpa using hp')
  ·intro ha
   have:=hn ha
   simpa using this
  ·intro p hp _
   simpa using hp
end

section
def VV{α:Type}(r:Rp α)(ok:α->Prop):Rp α where
 sz:=r.sz
 agg:=r.agg
 rc:=fun S cs x=>r.rc S cs x/\ok x
 mono:=fun h k=>⟨r.mono h k.1,k.2⟩
 len:=fun k=>r.len k.1
 one:=fun k=>r.one k.1
 sc:=r.sc
def TJ(k:IntKind)(n:Int):Prop:=k.min<=n/\n<=k.max
def V8{α:Type}(ok:α->Prop)(xs:List α):Prop:=xs.length<=maxLen/\ ∀x∈xs,ok x
def Ma{t:TypeId}(h:P.underlying t=some (.int k))(hc:P.cellsOf t=1):QF enc P hb t (VV (rI k) (TJ k)):=⟨hc,fun fuel cs x V=>by
 cases fuel with
 |zero=>simp [DataW.trod]at V
 |succ n=>
  unfold DataW.trod at V
  rw [h]at V
  split at V
  all_goals try (injections;done)
  ·rename_i k1 k2 m heq
   injection heq with e
   injection e with e
   subst e
   split at V
   ·rename_i H
    obtain⟨rfl,Q⟩:=H
    simp only [Lit.wf,iO,o9]at Q
    exact⟨m,rfl,Q⟩
   ·cases V⟩
def VK{α:Type}(r' r:Rp α)(ok:α->Prop):Prop:=r'.sz=r.sz/\r'.agg=r.agg/\ ∀S cs x,r'.rc S cs x->r.rc S cs x/\ok x
def Q9:VK (VV r ok) r ok:=⟨rfl,rfl,fun _ _ _ h=>h⟩
def Jr{α:Type}{r' r:Rp α}{ok:α->Prop}(h:VK r' r ok){S:SH}: ∀{xs:List α} {cs:List Value},o4 r' S cs xs->o4 r S cs xs/\ ∀x∈xs,ok x
 |[],_,k=>⟨k,fun x V=>by cases V⟩
 |x::xs,_,⟨a,b,e,Y,H⟩=>by
  obtain⟨g1,g2⟩:=h.2.2 _ _ _ Y
  obtain⟨g3,g4⟩:=Jr h H
  exact⟨⟨a,b,e,g1,g3⟩,fun y hy=>by
   rcases jy.1 hy with rfl|hy
   ·exact g2
   ·exact g4 y hy⟩
def Q8{r' :Rp α}(h:VK r' r ok):VK (gr r') (gr r) (V8 ok):=⟨rfl,rfl,fun S cs xs ⟨a,cap,e,Y,H,Q⟩=>by
 rcases Q with Q|⟨b,off,c,E,fr,e1,e2,e3⟩
 ·exact⟨⟨a,cap,e,Y,H,.inl Q⟩,by omega,fun x V=>by rw [Q]at V;cases V⟩
 ·rw [h.1]at e3
  obtain⟨g1,g2⟩:=Jr h e3
  exact⟨⟨a,cap,e,Y,H,.inr ⟨b,off,c,E,fr,e1,e2,g1⟩⟩,by omega,g2⟩⟩
def PR{t:TypeId}{r' :Rp α}(h:QF enc P hb t r')(hr:VK r' r ok)(hag:r.agg=false){aN:DataW h2}{ps:List MemPlace}(hv:DataW.Trod enc P hb 0 (fun _=>true) true t v aN ps)(hc:v.cells= #[v]): ∃y,(tD r y).p (Gj hb) v/\ok y:=by
 obtain⟨y,cs,e,hy⟩:=FU h (by rw [hr.2.1];exact hag) hv hc
 obtain⟨g1,g2⟩:=hr.2.2 _ _ _ hy
 exact⟨y,⟨cs,by rw [e];unfold Rp.val;rw [hr.2.1],g1⟩,g2⟩
end

section
variable{held:Bool}
end

def FV{α:Type}{r:Rp α}(hfree: ∀{S S' :SH} {cs:List Value} {x:α},r.rc S cs x->r.rc S' cs x){S S' :SH}: ∀{xs:List α} {cs:List Value},o4 r S cs xs->o4 r S' cs xs
 |[],_,h=>h
 |_::_,_,h=>by
  obtain⟨ds,es,Y,H,Q⟩:=h
  exact⟨ds,es,Y,hfree H,FV hfree Q⟩
def V7{l:Option Nat}(h:xj mm r T l cap xs w S)(hs:kV w S): ∃S1,SH.le S S1/\kV w S1/\(tD (gr r) xs).p S1 (an l cap xs.length):=by
 cases mm with
 |true=>exact⟨S,SH.le_refl _,hs,lM h⟩
 |false=>
  obtain⟨cells,Y,H,Q⟩:=h
  cases l with
  |none=>exact⟨S,SH.le_refl _,hs,lM (T:=T) ⟨cells,Y,H,fun b W=>(by cases W)⟩⟩
  |some b=>
   obtain⟨cur,g1,g2,g3,g4,g5⟩:=Y
   have hoo:Fa (.cells cells.toArray T (0,0)) (.cells cur T (0,0)):=by
    refine⟨cur.toList.drop (xs.length*r.sz),?_⟩
    congr 1
    apply Array.ext'
    rw [<-g5,qL]
   have hn:S b=none:=Q b rfl
   have hle:SH.le S (S.set b (.cells cells.toArray T (0,0))):=s6 fun q hq=>(by rw [hn]at hq;cases hq)
   have hsat:kV w (S.set b (.cells cells.toArray T (0,0))):=hs.set g1 hoo fun q hq=>by rw [hn]at hq;cases hq
   refine⟨_,hle,hsat,lM (T:=T) ⟨cells,⟨cur,g1,g2,g3,g4,g5⟩,pQ hle H,fun b' hb' =>?_⟩⟩
   have hb2:b=b' :=oy hb'
   subst hb2
   exact lA _ _ _
section
variable{ty:TypeId}
def AQ{S1:SH}{vs:List Value}(h:t.p S1 v)(k:uw S1 ts vs):uw S1 (t::ts) (v::vs):=⟨h,k⟩
def Ta{G:kN}{x:Operand}{S1:SH}(h:aI N G x t)(hf:bR N S a G)(hle:SH.le S S1):t.p S1 (a.eval x):=t.mono hle (h S a hf)
def Oj{b:Bool}(S S' :SH)(v:Value)(h:(tD rB b).p S v):(tD rB b).p S' v:=ie.2 (ie.1 h)
end

section
variable{ty:TypeId}
def hH{y:α}{x:Operand}(hag:r.agg=true)(hr: ∀S,r.rc S [v] y)(h:aI N G x (K (.agg #[v]))):aI N G x (tD r y):=fun S a hf=>⟨[v],by rw [Rp.val,bu hag];exact h S a hf,hr S⟩
end

section
variable{N:Nat}{w0:World}{S0:SH}{O1:List OE}{ι:Type}{t:ι->Ty}{O2:ι->List OE}
end
section
variable{c:Code}
end

section
variable{ty:TypeId}
end
section
variable{ty:TypeId}
end

def J{α:Sort _}{a:α}:a=a:=rfl
def d:True:=trivial
abbrev bA(x:Int):Ty:=tD (rI .i64) x
abbrev gw(x:Bool):Ty:=tD rB x
abbrev nu{α:Type}(l:List α):Ty:=tD (rI .i64) (l.length:Int)
abbrev nt:Rp (List Int):=gr (rI .i64)
abbrev nj(l:List Int):Ty:=tD (gr (rI .i64)) l
abbrev ep{α:Type}(r:Rp α)(l:List α):Ty:=tD (gr r) l
abbrev pY{α:Type}(l:Option Nat)(c:Nat)(xs:List α):Ty:=K (an l c xs.length)
def bj: ∀{G' G:kN},G'.map (fun p=>b8 G p.1)=G'.map (fun p=>some p.2)->Kw G' G
 |[],_,_=>trivial
 |(_,_)::_,_,h=>⟨(List.cons.inj h).1,bj (List.cons.inj h).2⟩

variable{ix:Nat}{xt:TypeId}
section
variable{ty:TypeId}
def m1(h:b8 G x=some t):b9 E O G ⟨dst,.move (.tmp x),ty,pos,after,g⟩ t:=bU (D h)
def Hp(h:b8 G x=some t):b9 E O G ⟨dst,.assign (.tmp x),ty,pos,after,g⟩ t:=bZ (D h)
def zai{n:Int}:b9 E O G ⟨dst,.assign (.const (.int k n)),ty,pos,after,g⟩ (tD (rI k) n):=bZ hI
def zab{b:Bool}:b9 E O G ⟨dst,.assign (.const (.bool b)),ty,pos,after,g⟩ (tD rB b):=bZ hB
def AJ{x:α}{p:Nat}(ti:TI E.P U sz bytes agg z)(hp:b8 G p=some (cH r x))(hs:(r.sz,r.agg)=(sz,agg)):
  b9 E O G ⟨dst,.load U (.tmp p),ty,pos,after,g⟩ (tD r x):=jn ti (uC hs).1 (uC hs).2 (D hp)
def uv{get:α->β}{x:α}{i:Nat}{p:Nat}(hf:bv E.P T i=some (off,sz))(hq:j6 r off q get)(hp:b8 G p=some (cH r x))(h0:(!(Nat.beq sz 0)&&Nat.ble (off+q.sz) r.sz)=true):b9 E O G ⟨dst,.fieldAddr T (.tmp p) i,ty,pos,after,g⟩ (cH q (get x)):=
 gG hf (by cases h:Nat.beq sz 0<;>simp [h]at h0 ⊢) hq (by revert h0;cases Nat.ble (off+q.sz) r.sz<;>simp) (D hp)
def QK{t:TypeId}(hu:E.P.underlying t=some (.slice e))(V:b8 G x=some (tD (gr r) xs)):
  b9 E O G ⟨dst,.call ⟨.builtin .len,#[.tmp x],#[t]⟩,ty,pos,after,g⟩ (tD (rI .i64) (xs.length:Int)):=ld hu (D V)
def Hn{i:Nat}(hi:ts[i]? =some t)(V:b8 G x=some (tT ts)):b9 E O G ⟨dst,.extract (.tmp x) i,ty,pos,after,g⟩ t:=Ie hi (D V)
def zbx{v:α}(V:b8 G x=some (tD r v)):b9 E O G ⟨dst,.box T (.tmp x),ty,pos,after,g⟩ (cH r v):=MF (D V)
def VQ{b q:Bool}(hc:b8 G c=some (tD rB b))(V:b8 G x=some (m4 b (tD rB q))):b9 E O G ⟨dst,.pick (.tmp c) (.tmp x) (.const (.bool false)),ty,pos,after,g⟩ (tD rB (b&&q)):=nP (D hc) (fun W=>bC V W)
def S3{b q:Bool}(hc:b8 G c=some (tD rB b))(V:b8 G x=some (m4 (!b) (tD rB q))):b9 E O G ⟨dst,.pick (.tmp c) (.const (.bool true)) (.tmp x),ty,pos,after,g⟩ (tD rB (b||q)):=lW (D hc) (fun W=>bC V (y3 W))
variable{y:Nat}{m n:Int}
def zlt(V:b8 G x=some (tD (rI k) m))(hy:b8 G y=some (tD (rI k) n)):b9 E O G ⟨dst,.binOp .lss xt (.tmp x) (.tmp y) yt,ty,pos,after,g⟩ (tD rB (decide (m<n))):=ij (D V) (D hy)
def VR(V:b8 G x=some (tD (rI j) m)):b9 E O G ⟨dst,.binOp .eql xt (.tmp x) (.const (.int j n)) yt,ty,pos,after,g⟩ (tD rB (m==n)):=dx (D V) hI
def zni(V:b8 G x=some (tD (rI j) m)):b9 E O G ⟨dst,.binOp .neq xt (.tmp x) (.const (.int j n)) yt,ty,pos,after,g⟩ (tD rB (m !=n)):=jm (D V) hI
def Jh{y:α}{x:Nat}{t:TypeId}{k:IntKind}{i:Int}(hu:E.P.underlying t=some (.slice e))(ti:TI E.P e sz bytes agg z)(hsz:r.sz=sz)(V:b8 G x=some (tD (gr r) xs))(hi:b8 G ix=some (tD (rI k) i))(hy:ga xs i=some y):
  b9 E O G ⟨dst,.indexAddr t (.tmp x) (.tmp ix),ty,pos,after,g⟩ (cH r y):=tE hu ti hsz (D V) (D hi) hy
def zin{i:Nat}{x:Nat}{xt yt:TypeId}(hi:i<9223372036854775807)(V:b8 G x=some (tD (rI .i64) (i:Int))):
  b9 E O G ⟨dst,.binOp .add xt (.tmp x) (.const (.int .i64 1)) yt,ty,pos,after,g⟩ (tD (rI .i64) ((i+1:Nat):Int)):=Ag hi (D V) hI
def oz{i o:Nat}{p:Nat}(n:Nat)(hf:bv E.P T i=some (off,sz))(h0:Nat.beq sz 0=false)(hp:b8 G p=some (K (M b o)))(he:o+off=n):b9 E O G ⟨dst,.fieldAddr T (.tmp p) i,ty,pos,after,g⟩ (K (M b n)):=bK (n:=n) hf h0 (D hp) he
end
section
variable{l:List Oper}
def zo{ty:TypeId}(hd:Nat.blt aN E.N.n=true)(h:b9 E O G ⟨some aN,op,ty,pos,after,none⟩ t)(k:RG E ops h3 l O ((aN,t)::G)):
  RG E ops h3 (⟨some aN,op,ty,pos,after,none⟩::l) O G:=rY h hd k
def tG(n aN:Nat)(r:Option Ty):Option Ty:=if Nat.blt aN n then r else none
def cV{r:Option Ty}(h:tG n aN r=some t):Nat.blt aN n=true/\r=some t:=by
 unfold tG at h;split at h
 case isTrue Y=>exact⟨Y,h⟩
 case isFalse=>cases h
def aO{ty:TypeId}(h:tG E.N.n aN (b8 G x)=some t)(k:RG E ops h3 l O ((aN,t)::G)):
  RG E ops h3 (⟨some aN,.move (.tmp x),ty,pos,after,none⟩::l) O G:=rY (bU (D (cV h).2)) (cV h).1 k
def gU{ty:TypeId}(h:tG E.N.n aN (b8 G x)=some t)(k:RG E ops h3 l O ((aN,t)::G)):
  RG E ops h3 (⟨some aN,.assign (.tmp x),ty,pos,after,none⟩::l) O G:=rY (bZ (D (cV h).2)) (cV h).1 k
def bp(h:CG E h3 y O G):RG E ops (Exit.then (y.wpIn (fw E.r) 0 E.P h3) h3) [] O G:=aS (aH h)
def a8{id:Nat}{l:List Oper}(h:RG E l.toArray (Exit.then (y.wpIn (fw E.r) 0 E.P h3) h3) l O G):CG E h3 (.seq (.region id l.toArray false) y) O G:=aP (av h)
def iX{β:Type _}{hg h1:Option β}{r:β}{x:Code}{b:Bool}(h:(if b=true then hg else h1)=some r)(W:b8 G c=some (tD rB b))(V:hg=some r->CG E h3 x O G)(hy:h1=some r->CG E h3 y O G):CG E h3 (.cond (.tmp c) x y) O G:=
 qz (D W) (fun hc=>V (ct h hc)) (fun hc=>hy (cf h hc))
def ji(h:CG E h3 y O G):CG E (Exit.then (y.wpIn (fw E.r) 0 E.P h3) h3) .skip O G:=bD (aH h)
def zgt{j gs:Nat}{b:Bool}{ty:TypeId}(hj:(ops[j]?).bind (·.dst)=some gs)(X:tG E.N.n gs (tG E.N.n aN (b8 G gs))=some (tD rB b))(h:b=true->b9 E O G ⟨some aN,op,ty,pos,after,some (j,true)⟩ t)(k:RG E ops h3 l O ((aN,m4 b t)::G)):RG E ops h3 (⟨some aN,op,ty,pos,after,some (j,true)⟩::l) O G:=PU hj (cV X).1 (cV (cV X).2).2 (cV (cV X).2).1 h k
def zgf{j gs:Nat}{b:Bool}{ty:TypeId}(hj:(ops[j]?).bind (·.dst)=some gs)(X:tG E.N.n gs (tG E.N.n aN (b8 G gs))=some (tD rB b))(h:(!b)=true->b9 E O G ⟨some aN,op,ty,pos,after,some (j,false)⟩ t)(k:RG E ops h3 l O ((aN,m4 (!b) t)::G)):RG E ops h3 (⟨some aN,op,ty,pos,after,some (j,false)⟩::l) O G:=PV hj (cV X).1 (cV (cV X).2).2 (cV (cV X).2).1 h k
end
def bT{α:Type _}{β:Type _}{x:Option α}{k:α->Option β}{r:β}{P:Prop}(h:x.bind k=some r)(f: ∀y,x=some y->k y=some r->P):P:=by
 obtain⟨y,Y,H⟩:=bs h;exact f y Y H
variable{u1:Ty}
section
variable{l:List Oper}{i:Nat}
def Ab{a b c:Bool}(h:(a&&b&&c)=true):a=true/\b=true/\c=true:=by revert h;cases a<;>cases b<;>cases c<;>simp
def TG{x:Option α}(h:x.isNone=true):x=none:=by cases x;rfl;cases h
def zd0(h:ts[i]? =some t)(k:b9 E O [] o t)(W:(dK i o&&o.guard.isNone)=true:=by exact rfl): ∃(needs:List Nd) (t:Ty),ts[i]? =some t/\pW G ts needs/\(needs.all (nm l o i))=true/\dK i o=true/\co E O l.toArray (iD needs) o t:=
 ⟨[],t,h,trivial,rfl,(Fe.1 W).1,ac (TG (Fe.1 W).2) k⟩
def Ho(a:Nat)(h:ts[i]? =some t)(hu:we G ts ⟨a,u,none⟩)(k:b9 E O [(a,u)] o t)(W:([(⟨a,u,none⟩:Nd)].all (nm l o i)&&dK i o&&o.guard.isNone)=true:=by exact rfl): ∃(needs:List Nd) (t:Ty),ts[i]? =some t/\pW G ts needs/\(needs.all (nm l o i))=true/\dK i o=true/\co E O l.toArray (iD needs) o t:=
 ⟨[(⟨a,u,none⟩:Nd)],t,h,⟨hu,trivial⟩,(Ab W).1,(Ab W).2.1,ac (TG (Ab W).2.2) k⟩
def fm(a:Nat)(j:Nat)(h:ts[i]? =some t)(hu:we G ts ⟨a,u,(some j)⟩)(k:b9 E O [(a,u)] o t)(W:([(⟨a,u,(some j)⟩:Nd)].all (nm l o i)&&dK i o&&o.guard.isNone)=true:=by exact rfl): ∃(needs:List Nd) (t:Ty),ts[i]? =some t/\pW G ts needs/\(needs.all (nm l o i))=true/\dK i o=true/\co E O l.toArray (iD needs) o t:=
 ⟨[(⟨a,u,(some j)⟩:Nd)],t,h,⟨hu,trivial⟩,(Ab W).1,(Ab W).2.1,ac (TG (Ab W).2.2) k⟩
def N9(a:Nat)(a1:Nat)(j1:Nat)(h:ts[i]? =some t)(hu:we G ts ⟨a,u,none⟩)(hu1:we G ts ⟨a1,u1,(some j1)⟩)(k:b9 E O [(a,u),(a1,u1)] o t)(W:([(⟨a,u,none⟩:Nd),⟨a1,u1,(some j1)⟩].all (nm l o i)&&dK i o&&o.guard.isNone)=true:=by exact rfl): ∃(needs:List Nd) (t:Ty),ts[i]? =some t/\pW G ts needs/\(needs.all (nm l o i))=true/\dK i o=true/\co E O l.toArray (iD needs) o t:=
 ⟨[(⟨a,u,none⟩:Nd),⟨a1,u1,(some j1)⟩],t,h,⟨hu,hu1,trivial⟩,(Ab W).1,(Ab W).2.1,ac (TG (Ab W).2.2) k⟩
def Ct(a:Nat)(a1:Nat)(j1:Nat)(h:ts[i]? =some t)(hu:we G ts ⟨a,u,none⟩)(hu1:we G ts ⟨a1,u1,(some j1)⟩)(k:co E O l.toArray [(a,u),(a1,u1)] o t)(W:([(⟨a,u,none⟩:Nd),⟨a1,u1,(some j1)⟩].all (nm l o i)&&dK i o)=true:=by exact rfl): ∃(needs:List Nd) (t:Ty),ts[i]? =some t/\pW G ts needs/\(needs.all (nm l o i))=true/\dK i o=true/\co E O l.toArray (iD needs) o t:=
 ⟨[(⟨a,u,none⟩:Nd),⟨a1,u1,(some j1)⟩],t,h,⟨hu,hu1,trivial⟩,(Fe.1 W).1,(Fe.1 W).2,k⟩
def jz(a:Nat)(j:Nat)(a1:Nat)(j1:Nat)(h:ts[i]? =some t)(hu:we G ts ⟨a,u,(some j)⟩)(hu1:we G ts ⟨a1,u1,(some j1)⟩)(k:b9 E O [(a,u),(a1,u1)] o t)(W:([(⟨a,u,(some j)⟩:Nd),⟨a1,u1,(some j1)⟩].all (nm l o i)&&dK i o&&o.guard.isNone)=true:=by exact rfl): ∃(needs:List Nd) (t:Ty),ts[i]? =some t/\pW G ts needs/\(needs.all (nm l o i))=true/\dK i o=true/\co E O l.toArray (iD needs) o t:=
 ⟨[(⟨a,u,(some j)⟩:Nd),⟨a1,u1,(some j1)⟩],t,h,⟨hu,hu1,trivial⟩,(Ab W).1,(Ab W).2.1,ac (TG (Ab W).2.2) k⟩
def se(a:Nat)(j:Nat)(a1:Nat)(j1:Nat)(h:ts[i]? =some t)(hu:we G ts ⟨a,u,(some j)⟩)(hu1:we G ts ⟨a1,u1,(some j1)⟩)(k:co E O l.toArray [(a,u),(a1,u1)] o t)(W:([(⟨a,u,(some j)⟩:Nd),⟨a1,u1,(some j1)⟩].all (nm l o i)&&dK i o)=true:=by exact rfl): ∃(needs:List Nd) (t:Ty),ts[i]? =some t/\pW G ts needs/\(needs.all (nm l o i))=true/\dK i o=true/\co E O l.toArray (iD needs) o t:=
 ⟨[(⟨a,u,(some j)⟩:Nd),⟨a1,u1,(some j1)⟩],t,h,⟨hu,hu1,trivial⟩,(Fe.1 W).1,(Fe.1 W).2,k⟩
def LV(a:Nat)(j:Nat)(a1:Nat)(j1:Nat)(a2:Nat)(j2:Nat){u2:Ty}(h:ts[i]? =some t)(hu:we G ts ⟨a,u,(some j)⟩)(hu1:we G ts ⟨a1,u1,(some j1)⟩)(hu2:we G ts ⟨a2,u2,(some j2)⟩)(k:co E O l.toArray [(a,u),(a1,u1),(a2,u2)] o t)(W:([(⟨a,u,(some j)⟩:Nd),⟨a1,u1,(some j1)⟩,⟨a2,u2,(some j2)⟩].all (nm l o i)&&dK i o)=true:=by exact rfl): ∃(needs:List Nd) (t:Ty),ts[i]? =some t/\pW G ts needs/\(needs.all (nm l o i))=true/\dK i o=true/\co E O l.toArray (iD needs) o t:=
 ⟨[(⟨a,u,(some j)⟩:Nd),⟨a1,u1,(some j1)⟩,⟨a2,u2,(some j2)⟩],t,h,⟨hu,hu1,hu2,trivial⟩,(Fe.1 W).1,(Fe.1 W).2,k⟩
end

def ud{r ae:Option Ty}(h:(tG n aN r,ae)=(some t,some u)):Nat.blt aN n=true/\r=some t/\ae=some u:=
 ⟨(cV (uC h).1).1,(cV (uC h).1).2,(uC h).2⟩
def Qc(G:kN):Operand->Option Ty
 | .tmp k=>b8 G k
 | .const (.int k n)=>some (tD (rI k) n)
 | .const (.bool b)=>some (tD rB b)
 |_=>none
def Hu: ∀{x:Operand},Qc G x=some t->aI N G x t
 | .tmp _,h=>D h
 | .const (.int _ _),h=>by cases h;exact hI
 | .const (.bool _),h=>by cases h;exact hB
def eb{N:Fr}{G:kN}: ∀{xs:List Operand} {ts:List Ty},xs.map (Qc G)=ts.map some->js N G xs ts
 |[],[],_=>trivial
 |_::_,_::_,h=>⟨Hu (List.cons.inj h).1,eb (List.cons.inj h).2⟩

variable{after2:Array Edge}{d2 id' :Nat}{pos2:String}{tl:List α}{ty2:TypeId}
section
variable{l:List Oper}{ty:TypeId}
def s(h:b9 E O G ⟨some aN,op,ty,pos,after,none⟩ t)(k:RG E ops h3 l O ((aN,t)::G))(hd:Nat.blt aN E.N.n=true:=by exact rfl):
  RG E ops h3 (⟨some aN,op,ty,pos,after,none⟩::l) O G:=rY h hd k
def eJ{x:α}{p:Nat}(ti:TI E.P U sz bytes agg z)(hp:tG E.N.n aN (b8 G p)=some (cH r x))(k:RG E ops h3 l O ((aN,tD r x)::G))(hs:(r.sz,r.agg)=(sz,agg):=by exact rfl):RG E ops h3 (⟨some aN,.load U (.tmp p),ty,pos,after,none⟩::l) O G:=zo (cV hp).1 (AJ ti (cV hp).2 hs) k
def sG{get:α->β}{x:α}{i:Nat}{p:Nat}(hf:bv E.P T i=some (off,sz))(hq:j6 r off q get)(hp:tG E.N.n aN (b8 G p)=some (cH r x))(k:RG E ops h3 l O ((aN,cH q (get x))::G))(h0:(!(Nat.beq sz 0)&&Nat.ble (off+q.sz) r.sz)=true:=by exact rfl):
  RG E ops h3 (⟨some aN,.fieldAddr T (.tmp p) i,ty,pos,after,none⟩::l) O G:=zo (cV hp).1 (uv hf hq (cV hp).2 h0) k
def bz{get:α->β}{x:α}{i s2:Nat}{p p2:Nat}(hf:bv E.P T i=some (off,sz))(hq:j6 r off q get)(ti:TI E.P U s2 bytes agg z)(hp:tG E.N.n aN (b8 G p)=some (cH r x))(k:RG E ops h3 l O ((d2,tD q (get x))::(aN,cH q (get x))::G))(h0:(!(Nat.beq sz 0)&&Nat.ble (off+q.sz) r.sz)=true:=by exact rfl)(hp2:tG E.N.n d2 (b8 ((aN,cH q (get x))::G) p2)=some (cH q (get x)):=by exact rfl)(hs:(q.sz,q.agg)=(s2,agg):=by exact rfl):
  RG E ops h3 (⟨some aN,.fieldAddr T (.tmp p) i,ty,pos,after,none⟩::⟨some d2,.load U (.tmp p2),ty2,pos2,after2,none⟩::l) O G:=sG hf hq hp (eJ ti hp2 k hs) h0
def aX{i o:Nat}{p:Nat}(n:Nat)(hf:bv E.P T i=some (off,sz))(hp:tG E.N.n aN (b8 G p)=some (K (M b o)))(k:RG E ops h3 l O ((aN,K (M b n))::G))(h0:Nat.beq sz 0=false:=by exact rfl)(he:o+off=n:=by exact rfl):RG E ops h3 (⟨some aN,.fieldAddr T (.tmp p) i,ty,pos,after,none⟩::l) O G:=zo (cV hp).1 (oz n hf h0 (cV hp).2 he) k
def eF{i:Nat}(V:tG E.N.n aN (b8 G x)=some (tT ts))(hi:ts[i]? =some t)(k:RG E ops h3 l O ((aN,t)::G)):RG E ops h3 (⟨some aN,.extract (.tmp x) i,ty,pos,after,none⟩::l) O G:=zo (cV V).1 (Hn hi (cV V).2) k
def cC{n:Int}(k:RG E ops h3 l O ((aN,tD (rI j) n)::G))(hd:Nat.blt aN E.N.n=true:=by exact rfl):RG E ops h3 (⟨some aN,.assign (.const (.int j n)),ty,pos,after,none⟩::l) O G:=zo hd zai k
def bE{b:Bool}(k:RG E ops h3 l O ((aN,tD rB b)::G))(hd:Nat.blt aN E.N.n=true:=by exact rfl):RG E ops h3 (⟨some aN,.assign (.const (.bool b)),ty,pos,after,none⟩::l) O G:=zo hd zab k
def cw(hu:E.P.underlying st=some (.slice e))(V:tG E.N.n aN (b8 G x)=some (tD (gr r) xs))(k:RG E ops h3 l O ((aN,tD (rI .i64) (xs.length:Int))::G)):
  RG E ops h3 (⟨some aN,.call ⟨.builtin .len,#[.tmp x],#[st]⟩,ty,pos,after,none⟩::l) O G:=zo (cV V).1 (QK hu (cV V).2) k
def eG{v:α}(V:tG E.N.n aN (b8 G x)=some (tD r v))(k:RG E ops h3 l O ((aN,cH r v)::G)):RG E ops h3 (⟨some aN,.box T (.tmp x),ty,pos,after,none⟩::l) O G:=zo (cV V).1 (zbx (cV V).2) k
def cB{b q:Bool}(h:(tG E.N.n aN (b8 G c),b8 G x)=(some (tD rB b),some (m4 b (tD rB q))))(k:RG E ops h3 l O ((aN,tD rB (b&&q))::G)):
  RG E ops h3 (⟨some aN,.pick (.tmp c) (.tmp x) (.const (.bool false)),ty,pos,after,none⟩::l) O G:=zo (ud h).1 (VQ (ud h).2.1 (ud h).2.2) k
def ka{b q:Bool}(h:(tG E.N.n aN (b8 G c),b8 G x)=(some (tD rB b),some (m4 (!b) (tD rB q))))(k:RG E ops h3 l O ((aN,tD rB (b||q))::G)):
  RG E ops h3 (⟨some aN,.pick (.tmp c) (.const (.bool true)) (.tmp x),ty,pos,after,none⟩::l) O G:=zo (ud h).1 (S3 (ud h).2.1 (ud h).2.2) k
section
variable{y:Nat}{m n:Int}
def nw(h:(tG E.N.n aN (b8 G x),b8 G y)=(some (tD (rI j) m),some (tD (rI j) n)))(k:RG E ops h3 l O ((aN,tD rB (decide (m<n)))::G)):
  RG E ops h3 (⟨some aN,.binOp .lss xt (.tmp x) (.tmp y) yt,ty,pos,after,none⟩::l) O G:=zo (ud h).1 (zlt (ud h).2.1 (ud h).2.2) k
def bM(V:tG E.N.n aN (b8 G x)=some (tD (rI j) m))(k:RG E ops h3 l O ((aN,tD rB (m==n))::G)):RG E ops h3 (⟨some aN,.binOp .eql xt (.tmp x) (.const (.int j n)) yt,ty,pos,after,none⟩::l) O G:=zo (cV V).1 (VR (cV V).2) k
def nW(V:tG E.N.n aN (b8 G x)=some (tD (rI j) m))(k:RG E ops h3 l O ((aN,tD rB (m !=n))::G)):RG E ops h3 (⟨some aN,.binOp .neq xt (.tmp x) (.const (.int j n)) yt,ty,pos,after,none⟩::l) O G:=zo (cV V).1 (zni (cV V).2) k
def kL{c:Bool}(V:b8 G x=some (m4 c (tD (rI j) m)))(hc:c=true):b9 E O G ⟨dst,.binOp .eql xt (.tmp x) (.const (.int j n)) yt,ty,pos,after,g⟩ (tD rB (m==n)):=dx (bC V hc) hI
def zB{c:Bool}(V:b8 G x=some (m4 c (tD (rI j) m)))(hc:c=true):b9 E O G ⟨dst,.binOp .neq xt (.tmp x) (.const (.int j n)) yt,ty,pos,after,g⟩ (tD rB (m !=n)):=jm (bC V hc) hI
def ft{i a id:Nat}{z w:Code}(V:xs.drop i=[])(h:(tG E.N.n aN (b8 G a),b8 G b)=(some (tD (rI .i64) (i:Int)),some (tD (rI .i64) (xs.length:Int))))(k:AT E h3 .normal O ((aN,tD rB (decide ((i:Int)<(xs.length:Int))))::G))(hc:b8 ((aN,tD rB (decide ((i:Int)<(xs.length:Int))))::G) c=some (tD rB (decide ((i:Int)<(xs.length:Int)))):=by exact rfl):
  LG E (Exit.inBlock id h3) (.seq (.region id' [⟨some aN,.binOp .lss xt (.tmp a) (.tmp b) yt,ty,pos,after,none⟩].toArray false) (.seq (.cond (.tmp c) z (.exit id)) w)) O G:=
 d8<|a8<|nw h<|bp<|aP<|yE (D hc) (Qs V)<|dh<|aq (aq (bY k))
def fq{e:α}{i a:Nat}{z w:Code}(V:xs.drop i=e::tl)(h:(tG E.N.n aN (b8 G a),b8 G b)=(some (tD (rI .i64) (i:Int)),some (tD (rI .i64) (xs.length:Int))))(k:CG E (Exit.then (wY E.r E.P (.seq (.region id' [⟨some aN,.binOp .lss xt (.tmp a) (.tmp b) yt,ty,pos,after,none⟩].toArray false) (.seq (.cond (.tmp c) .skip z) w)) h3) h3) w O ((aN,tD rB (decide ((i:Int)<(xs.length:Int))))::G))(hc:b8 ((aN,tD rB (decide ((i:Int)<(xs.length:Int))))::G) c=some (tD rB (decide ((i:Int)<(xs.length:Int)))):=by exact rfl):
  LG E h3 (.seq (.region id' [⟨some aN,.binOp .lss xt (.tmp a) (.tmp b) yt,ty,pos,after,none⟩].toArray false) (.seq (.cond (.tmp c) .skip z) w)) O G:=
 d8<|a8<|nw h<|bp<|aP<|yD (D hc) (Nw V)<|ji k
end
def C2{y:α}{i:Int}(hu:E.P.underlying st=some (.slice e))(ti:TI E.P e sz bytes agg z)(h:(tG E.N.n aN (b8 G x),b8 G ix)=(some (tD (gr r) xs),some (tD (rI j) i)))(hy:ga xs i=some y)(k:RG E ops h3 l O ((aN,cH r y)::G))(hsz:r.sz=sz:=by exact rfl):
  RG E ops h3 (⟨some aN,.indexAddr st (.tmp x) (.tmp ix),ty,pos,after,none⟩::l) O G:=zo (ud h).1 (Jh hu ti hsz (ud h).2.1 (ud h).2.2 hy) k
def fP{y:α}{i:Int}{p2:Nat}(hu:E.P.underlying st=some (.slice e))(ti:TI E.P e sz bytes agg z)(h:(tG E.N.n aN (b8 G x),b8 G ix)=(some (tD (gr r) xs),some (tD (rI j) i)))(hy:ga xs i=some y)(k:RG E ops h3 l O ((d2,tD r y)::(aN,cH r y)::G))(hsz:r.sz=sz:=by exact rfl)(hp2:tG E.N.n d2 (b8 ((aN,cH r y)::G) p2)=some (cH r y):=by exact rfl)(hs:(r.sz,r.agg)=(sz,agg):=by exact rfl):
  RG E ops h3 (⟨some aN,.indexAddr st (.tmp x) (.tmp ix),ty,pos,after,none⟩::⟨some d2,.load e (.tmp p2),ty2,pos2,after2,none⟩::l) O G:=C2 hu ti h hy (eJ ti hp2 k hs) hsz
def bG{x:α}{y:β}{p v:Nat}{ty:TypeId}(ti:TI E.P U sz bytes agg z)(hset:eE r off q set)(h:(b8 G p,b8 G v)=(some (K (M b off)),some (tD q y)))(k:RG E ops h3 l (Z r T b (set x y)::O) G)(hsz:q.sz=sz:=by exact rfl)(hoff:Nat.ble (off+q.sz) r.sz=true:=by exact rfl):
  RG E ops h3 (⟨none,.store U (.tmp p) (.tmp v),ty,pos,after,none⟩::l) (Z r T b x::O) G:=dV ti hsz hset hoff (D (uC h).1) (D (uC h).2) k
def Jj(n:Nat)(ops:Array Oper)(aN j:Nat)(G:kN):Option Ty:=((ops[j]?).bind (·.dst)).bind fun gs=>tG n gs (tG n aN (b8 G gs))
def AO{aN j:Nat}{ops:Array Oper}{t:Ty}(h:Jj n ops aN j G=some t): ∃gs,(ops[j]?).bind (·.dst)=some gs/\tG n gs (tG n aN (b8 G gs))=some t:=by
 unfold Jj at h
 cases X:(ops[j]?).bind (·.dst)with
 |none=>rw [X]at h;cases h
 |some gs=>rw [X]at h;exact⟨gs,rfl,h⟩
def ah{j:Nat}{b:Bool}(X:Jj E.N.n ops aN j G=some (tD rB b))(h:b=true->b9 E O G ⟨some aN,op,ty,pos,after,some (j,true)⟩ t)(k:RG E ops h3 l O ((aN,m4 b t)::G)):
  RG E ops h3 (⟨some aN,op,ty,pos,after,some (j,true)⟩::l) O G:=by obtain⟨gs,Y,H⟩:=AO X;exact zgt Y H h k
def bX{j:Nat}{b:Bool}(X:Jj E.N.n ops aN j G=some (tD rB b))(h:(!b)=true->b9 E O G ⟨some aN,op,ty,pos,after,some (j,false)⟩ t)(k:RG E ops h3 l O ((aN,m4 (!b) t)::G)):
  RG E ops h3 (⟨some aN,op,ty,pos,after,some (j,false)⟩::l) O G:=by obtain⟨gs,Y,H⟩:=AO X;exact zgf Y H h k
section
variable{c:Bool}
def b7{x:α}{p:Nat}(ti:TI E.P U sz bytes agg z)(hp:b8 G p=some (m4 c (cH r x)))(hs:(r.sz,r.agg)=(sz,agg))(hc:c=true):
  b9 E O G ⟨dst,.load U (.tmp p),ty,pos,after,g⟩ (tD r x):=jn ti (uC hs).1 (uC hs).2 (bC hp hc)
def ca{get:α->β}{x:α}{i:Nat}{p:Nat}(hf:bv E.P T i=some (off,sz))(hq:j6 r off q get)(hp:b8 G p=some (cH r x))(h0:(!(Nat.beq sz 0)&&Nat.ble (off+q.sz) r.sz)=true)(_:c=true):b9 E O G ⟨dst,.fieldAddr T (.tmp p) i,ty,pos,after,g⟩ (cH q (get x)):=uv hf hq hp h0
def cN(V:b8 G x=some t)(_:c=true):b9 E O G ⟨dst,.move (.tmp x),ty,pos,after,g⟩ t:=m1 V
def rs(V:b8 G x=some (m4 c t))(hc:c=true):b9 E O G ⟨dst,.move (.tmp x),ty,pos,after,g⟩ t:=bU (bC V hc)
def ml(hu:E.P.underlying st=some (.slice e))(V:b8 G x=some (m4 c (tD (gr r) xs)))(hc:c=true):
  b9 E O G ⟨dst,.call ⟨.builtin .len,#[.tmp x],#[st]⟩,ty,pos,after,g⟩ (tD (rI .i64) (xs.length:Int)):=ld hu (bC V hc)
def xC{b:Bool}(V:b8 G x=some (m4 c (tD rB b)))(hc:c=true):b9 E O G ⟨dst,.unOp .not xt (.tmp x),ty,pos,after,g⟩ (tD rB (!b)):=fH (bC V hc)
end
def aW(h:tG E.N.n aN (b8 G x)=some t)(k:CG E h3 y O ((aN,t)::G)):RG E ops (Exit.then (y.wpIn (fw E.r) 0 E.P h3) h3) [⟨some aN,.assign (.tmp x),ty,pos,after,none⟩] O G:=gU h (bp k)
def cj(h:AT E h3 .ret O G):RG E ops (Exit.then (Code.ret.wpIn (fw E.r) 0 E.P h3) h3) [] O G:=bp (pA h)
def bk(h:tG E.N.n aN (b8 G x)=some t)(k:AT E h3 .ret O ((aN,t)::G)):RG E ops (Exit.then (Code.ret.wpIn (fw E.r) 0 E.P h3) h3) [⟨some aN,.assign (.tmp x),ty,pos,after,none⟩] O G:=gU h (cj k)
def bm{id:Nat}{z:Code}(h:RG E l.toArray (Exit.then (y.wpIn (fw E.r) 0 E.P (Exit.then (z.wpIn (fw E.r) 0 E.P h3) h3)) (Exit.then (z.wpIn (fw E.r) 0 E.P h3) h3)) l O G):CG E h3 (.seq (.seq (.region id l.toArray false) y) z) O G:=aP (a8 h)
def ay{id:Nat}(h:tG E.N.n aN (b8 G x)=some t)(k:RG E ((⟨some aN,.move (.tmp x),ty,pos,after,none⟩::l).toArray) (Exit.then (y.wpIn (fw E.r) 0 E.P h3) h3) l O ((aN,t)::G)):
  CG E h3 (.seq (.region id (⟨some aN,.move (.tmp x),ty,pos,after,none⟩::l).toArray false) y) O G:=a8 (aO h k)
def iw{α β:Type _}{a:Option α}{f:α->Option β}{R:β}{xs:List Operand}{u:α->Ty}(h:a.bind f=some R)(hc:ak E.P fid=true)(hs: ∀{y},a=some y->dy E.P fid ts (u y))(V:js E.N G xs ts)(k: ∀y,f y=some R->RG E ops h3 l O ((aN,u y)::G))(hd:Nat.blt aN E.N.n=true:=by exact rfl):RG E ops h3 (⟨some aN,.call ⟨.value (.func fid),xs.toArray,ats⟩,ty,pos,after,none⟩::l) O G:=
 bT h fun y hy h=>rY (c7 hc (hs hy) V) hd (k y h)
def uE{α β:Type _}{γ:Type}{a:Option α}{f:α->Option β}{R:β}{r:Rp γ}{zs:α->List γ}{xs:List Operand}(h:a.bind f=some R)(hc:ak E.P fid=true)(hs: ∀{y},a=some y->ir E.P fid ts false r T (zs y))(V:js E.N G xs ts)(k: ∀y,f y=some R-> ∀b cap,RG E ops h3 l (cM r T b cap (zs y)::O) ((aN,K (an b cap (zs y).length))::G))(hd:Nat.blt aN E.N.n=true:=by exact rfl):
  RG E ops h3 (⟨some aN,.call ⟨.value (.func fid),xs.toArray,ats⟩,ty,pos,after,none⟩::l) O G:=bT h fun y hy h=>NQ hc (hs hy) V hd (k y h)
def dY{e:α}{i a id:Nat}(V:xs.drop i=e::tl)(hN:xs.length<=maxLen)(h:tG E.N.n aN (b8 G a)=some (tD (rI .i64) (i:Int)))(k:AT E h3 .normal O ((d2,tD (rI .i64) ((i+1:Nat):Int))::(aN,tD (rI .i64) ((i+1:Nat):Int))::G))(H:tG E.N.n d2 (b8 ((aN,tD (rI .i64) ((i+1:Nat):Int))::G) b)=some (tD (rI .i64) ((i+1:Nat):Int)):=by exact rfl):
  AT E (Exit.inBlock id (Exit.then ((Code.region id' [⟨some aN,.binOp .add xt (.tmp a) (.const (.int .i64 1)) yt,ty,pos,after,none⟩,⟨some d2,.move (.tmp b),ty2,pos2,after2,none⟩].toArray false).wpIn (fw E.r) 0 E.P h3) h3)) .normal O G:=
 aF<|aH<|av<|zo (cV h).1 (zin (Qr V hN) (cV h).2)<|aO H<|aS k
def S6{e:α}{i a b2 d3 id:Nat}{ty3:TypeId}{pos3:String}{after3:Array Edge}(V:xs.drop i=e::tl)(hN:xs.length<=maxLen)(h:tG E.N.n aN (b8 G a)=some (tD (rI .i64) (i:Int)))(k:AT E h3 .normal O ((d3,tD (rI .i64) ((i+1:Nat):Int))::(d2,tD (rI .i64) ((i+1:Nat):Int))::(aN,tD (rI .i64) (i:Int))::G))(Y:tG E.N.n d2 (b8 ((aN,tD (rI .i64) (i:Int))::G) b)=some (tD (rI .i64) (i:Int)):=by exact rfl)(H:tG E.N.n d3 (b8 ((d2,tD (rI .i64) ((i+1:Nat):Int))::(aN,tD (rI .i64) (i:Int))::G) b2)=some (tD (rI .i64) ((i+1:Nat):Int)):=by exact rfl):
  AT E (Exit.inBlock id (Exit.then ((Code.region id' [⟨some aN,.move (.tmp a),ty,pos,after,none⟩,⟨some d2,.binOp .add xt (.tmp b) (.const (.int .i64 1)) yt,ty2,pos2,after2,none⟩,⟨some d3,.assign (.tmp b2),ty3,pos3,after3,none⟩].toArray false).wpIn (fw E.r) 0 E.P h3) h3)) .normal O G:=
 aF<|aH<|av<|aO h<|zo (cV Y).1 (zin (Qr V hN) (cV Y).2)<|gU H<|aS k
section
variable{e:α}{i a p q1 q2 d3 d4 id:Nat}{ty3 ty4 u:TypeId}{pos3 pos4:String}{after3 after4:Array Edge}{z w:Code}
end
end
section
variable{l:List Oper}{ty:TypeId}
def kb(r:Rp α)(k:RG E ops h3 l O ((aN,tD (gr r) [])::G))(hd:Nat.blt aN E.N.n=true:=by exact rfl):RG E ops h3 (⟨some aN,.assign (.const (.slice none 0 0)),ty,pos,after,none⟩::l) O G:=zo hd (bZ OS) k
def dd{β:Type _}{hg h1:Option β}{r:β}{x:Code}{b:Bool}(h:(if b=true then hg else h1)=some r)(W:b8 G c=some (tD rB b))(V:hg=some r->CG E h3 x O G)(hy:h1=some r->CG E h3 y O G):
  RG E ops (Exit.then ((Code.cond (.tmp c) x y).wpIn (fw E.r) 0 E.P h3) h3) [] O G:=bp (iX h W V hy)
def fa{id:Nat}{tV:Act->World->Prop}(h:AT E h3 .ret O G):AT E (Exit.inBlock id (Exit.then tV h3)) .ret O G:=LI (aC h)
def fZ{n:Int}(k:AT E h3 .ret O ((aN,tD (rI j) n)::G))(hd:Nat.blt aN E.N.n=true:=by exact rfl):RG E ops (Exit.then (Code.ret.wpIn (fw E.r) 0 E.P h3) h3) [⟨some aN,.assign (.const (.int j n)),ty,pos,after,none⟩] O G:=zo hd zai (cj k)
def eu{f:FuncId}{c:Code}{N:Nat}(hf:P.funcs[f]? =some fn)(W:(fn.body,fn.ntmps,Nat.ble ts.length fn.ntmps)=(some c,N,true))(h: ∀{w0 S0},CG ⟨P,⟨N,[]⟩,rn,w0,S0,none⟩ (bodyPost P fn (GM ⟨P,⟨N,[]⟩,rn,w0,S0,none⟩ t)) c [] (wv 0 ts)):dy P f ts t:=by
 obtain⟨Y,H⟩:=uC W
 obtain⟨H,Q⟩:=uC H
 subst H
 exact dy.of hf Y rfl Q fun _ _=>h
section
variable{i:Nat}
def S7{G:kN}{k:Nat}:b8 ((k,t)::G) k=some t:=by simp [b8]
def gx(h:ts[i]? =some u)(hu:b8 G x=some u)(W:([(⟨x,u,none⟩:Nd)].all (nm l ⟨dst,.move (.tmp x),ty,pos,after,g⟩ i)&&dK i ⟨dst,.move (.tmp x),ty,pos,after,g⟩&&g.isNone)=true:=by exact rfl):
  ∃(needs:List Nd) (t:Ty),ts[i]? =some t/\pW G ts needs/\(needs.all (nm l ⟨dst,.move (.tmp x),ty,pos,after,g⟩ i))=true/\dK i ⟨dst,.move (.tmp x),ty,pos,after,g⟩=true/\co E O l.toArray (iD needs) ⟨dst,.move (.tmp x),ty,pos,after,g⟩ t:=
 Ho x h hu (m1 S7) W
def sH{v:α}(j:Nat)(ti:TI E.P U sz bytes agg z)(h:ts[i]? =some (tD r v))(hu:ts[j]? =some (cH r v))(hs:(r.sz,r.agg)=(sz,agg):=by exact rfl)(W:([(⟨x,cH r v,some j⟩:Nd)].all (nm l ⟨dst,.load U (.tmp x),ty,pos,after,g⟩ i)&&dK i ⟨dst,.load U (.tmp x),ty,pos,after,g⟩&&g.isNone)=true:=by exact rfl):
  ∃(needs:List Nd) (t:Ty),ts[i]? =some t/\pW G ts needs/\(needs.all (nm l ⟨dst,.load U (.tmp x),ty,pos,after,g⟩ i))=true/\dK i ⟨dst,.load U (.tmp x),ty,pos,after,g⟩=true/\co E O l.toArray (iD needs) ⟨dst,.load U (.tmp x),ty,pos,after,g⟩ t:=
 fm x j h hu (AJ ti S7 hs) W
end
end
end Go.Proofs.YtdohlidddcgfjaaGreat

