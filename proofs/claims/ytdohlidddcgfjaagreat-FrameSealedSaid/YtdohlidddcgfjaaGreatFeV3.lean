/- bO of this claim: W33, W34, W35, W36, W37, W38, W39, W40, W48, W50, W51, W41, W42, W43, W21, W27, W45, W46, W47, W52, W53, W56, W57, W64. -/
import Derived.Test.YtdohlidddcgfjaaGreatFeV2
import Derived.Lib.Bytealg
import Derived.Maps.Range
import Derived.Laws.IdiomRangeMap
import Derived.Test.YtdohlidddcgfjaaGreatFeV1
import Derived.Laws.BytesString
import Derived.Below
import Derived.ProofKit
import Derived.OpenShut
import Derived.LaidMore
import Derived.Laws.Externs
set_option linter.all false
namespace Go.Proofs.YtdohlidddcgfjaaGreat
open Go

def vR(N:Nat):List Nat->List Oper->Bool
 |_,[]=>true
 |seen,o::rest=>match o.dst with
  |some aL=>Nat.blt aL N&& !(seen.any (Nat.beq aL))&&vR N (aL::seen) rest
  |none=>vR N seen rest
variable{N:Fr}{β:Type}{aL:Nat}{j:IntKind}{o:Oper}{p:Operand}{q:Rp β}
def A5{N:Nat}(l:List Oper): ∀(seen:List Nat),vR N seen l=true->
  (∀o:Oper,o∈l-> ∀aL,o.dst=some aL->aL<N/\aL∉seen)/\ ∀(i j:Nat) (o p:Oper) (aL:Nat),l[i]? =some o->l[j]? =some p->o.dst=some aL->p.dst=some aL->i=j:=by
 induction l with
 |nil=>exact fun _ _=>⟨fun _ h=>(by cases h),fun _ _ _ _ _ h=>(by simp at h)⟩
 |cons o l ih=>
  intro seen h
  unfold vR at h
  cases hd:o.dst with
  |none=>
   rw [hd]at h
   obtain⟨Y,H⟩:=ih seen h
   refine⟨fun q hq aL hqd=>?_,fun i j p q aL hi hj hp hq=>?_⟩
   ·rcases j8.1 hq with rfl|hq
    ·rw [hd]at hqd;cases hqd
    ·exact Y q hq aL hqd
   ·cases i with
    |zero=>simp at hi;subst hi;rw [hd]at hp;cases hp
    |succ i=>
     cases j with
     |zero=>simp at hj;subst hj;rw [hd]at hq;cases hq
     |succ j=>rw [H i j p q aL (by simpa using hi) (by simpa using hj) hp hq]
  |some d0=>
   rw [hd]at h
   simp only [nP,tt,DW]at h
   obtain⟨⟨g1,g2⟩,g3⟩:=h
   obtain⟨Y,H⟩:=ih (d0::seen) g3
   have hns:d0∉seen:=fun hm=>by
    have:seen.any (Nat.beq d0)=true:=B2.2 ⟨d0,hm,Nat.beq_refl d0⟩
    rw [this]at g2;cases g2
   refine⟨fun q hq aL hqd=>?_,fun i j p q aL hi hj hp hq=>?_⟩
   ·rcases j8.1 hq with rfl|hq
    ·rw [hd]at hqd;cases hqd;exact⟨g1,hns⟩
    ·obtain⟨k1,k2⟩:=Y q hq aL hqd
     exact⟨k1,fun hm=>k2 (o4 _ hm)⟩
   ·cases i with
    |zero=>
     cases j with
     |zero=>rfl
     |succ j=>
      simp at hi;subst hi
      rw [hd]at hp;cases hp
      exact absurd (nQ ..) (Y q (sI (by simpa using hj)) d0 hq).2
    |succ i=>
     cases j with
     |zero=>
      simp at hj;subst hj
      rw [hd]at hq;cases hq
      exact absurd (nQ ..) (Y p (sI (by simpa using hi)) d0 hp).2
     |succ j=>rw [H i j p q aL (by simpa using hi) (by simpa using hj) hp hq]
def Ig:List Oper->List Ty->lv->lv
 |o::l,t::ts,G=>match o.dst with
  |some aL=>(aL,t)::Ig l ts G
  |none=>Ig l ts G
 |_,_,G=>G
variable{G:lv}{e:TypeId}{k:IntKind}{t:Ty}{ts:List Ty}{u:Ty}
def Fe(l:List Oper): ∀(ts:List Ty) (k:Nat) (t:Ty),ts.length=l.length->cn (Ig l ts G) k=some t->
  (∃(j:Nat) (o:Oper),l[j]? =some o/\o.dst=some k/\ts[j]? =some t)\/(cn G k=some t/\ ∀o:Oper,o∈l->o.dst≠some k):=by
 induction l with
 |nil=>
  intro ts k t hl h
  have:ts=[]:=tA (by simpa using hl)
  subst this
  exact .inr ⟨h,fun _ h=>(by cases h)⟩
 |cons o l ih=>
  intro ts k t hl h
  cases ts with
  |nil=>simp at hl
  |cons u ts=>
   unfold Ig at h
   have hl' :ts.length=l.length:=by simpa using hl
   have lift:((∃(j:Nat) (p:Oper),l[j]? =some p/\p.dst=some k/\ts[j]? =some t)\/(cn G k=some t/\ ∀p:Oper,p∈l->p.dst≠some k))->o.dst≠some k->
     (∃(j:Nat) (p:Oper),(o::l)[j]? =some p/\p.dst=some k/\(u::ts)[j]? =some t)\/(cn G k=some t/\ ∀p:Oper,p∈o::l->p.dst≠some k):=by
    rintro(⟨j,p,Y,H,s⟩|⟨Y,H⟩) hne
    ·exact .inl ⟨j+1,p,by simpa using Y,H,by simpa using s⟩
    ·exact .inr ⟨Y,fun p hp=>(j8.1 hp).elim (fun e=>by subst e;exact hne) (H p)⟩
   cases hd:o.dst with
   |none=>
    rw [hd]at h
    exact lift (ih ts k t hl' h) (by rw [hd];exact fun e=>by cases e)
   |some aL=>
    rw [hd]at h
    simp only at h
    unfold cn at h
    by_cases W:Nat.beq aL k=true
    ·rw [W]at h
     have:=oq W
     subst this
     have e:u=t:=by simpa using h
     subst e
     exact .inl ⟨0,o,rfl,hd,rfl⟩
    ·rw [Ab]at W
     rw [W]at h
     refine lift (ih ts k t hl' h) ?_
     rw [hd]
     intro e
     have:aL=k:=px e
     subst this
     simp at W
abbrev TS:=List Nat×(List OI->Ty)
def TS.at(p:TS)(σ:Nat->OI):Ty:=p.2 (p.1.map σ)
def tc(t:Ty):TS:=([],fun _=>t)
def Oy(Ss:List ((Nat->OI)->List OE))(c:Nat)(σ:Nat->OI):List OE:=match Ss[c]? with|some f=>f σ|none=>[]
structure NS where
 slot:Nat
 ty:(Nat->OI)->Ty
 src:Option Nat
def NS.at(n:NS)(σ:Nat->OI):Nd:=⟨n.slot,n.ty σ,n.src⟩
def Ta(G:lv)(ts:List TS)(n:NS):Prop:=
 match n.src with
 |some j=> ∀σ,(ts[j]?).map (fun p=>p.at σ)=some (n.ty σ)
 |none=> ∀σ,cn G n.slot=some (n.ty σ)
def vu(G:lv)(ts:List TS):List NS->Prop
 |[]=>True
 |n::l=>Ta G ts n/\vu G ts l
variable{n:Nat}
def vu.mem{ts:List TS}: ∀{l:List NS},vu G ts l-> ∀n∈l,Ta G ts n
 |_::_,⟨h,_⟩,_,.head _=>h
 |_::_,⟨_,h⟩,_,.tail _ hm=>vu.mem h _ hm
def vq(l:List NS)(σ:Nat->OI):lv:=je (l.map (·.at σ))
def Q4(ts:List TS)(σ:Nat->OI):List Ty:=ts.map fun p=>p.at σ
def N5(L:List Oper)(es:List Bool)(i:Nat)(p:TS):Bool:=p.1.all fun k=>(es[k]?).getD false&&(Nat.beq k i||m5 L L.length i k)
def Ui(L:List Oper)(es:List Bool)(i lo hi:Nat):Bool:=
 Nat.ble lo (gz es es.length)&&(List.range es.length).all fun k=> !((es[k]?).getD false)||((Nat.ble lo (gz es k)||m5 L L.length i k)&&(Nat.blt (gz es k) hi||m5 L L.length k i))
def DS(E:En)(G:lv)(L:List Oper)(ts:List TS)(Ss:List ((Nat->OI)->List OE))(es0:List Bool):Nat->Nat->List Oper->List Bool->Prop
 |_,_,[],_=>True
 |i,c,o::rest,false::es=>(∃(needs:List NS) (t:TS) (lo hi:Nat),ts[i]? =some t/\vu G ts needs/\(needs.all fun n=>ot L o i (n.at fun _=>jj))=true/\ef i o=true/\N5 L es0 i t=true/\Ui L es0 i lo hi=true/\o.dst.isSome=true/\
   ∀c σ,lo<=c->c<=hi->cj E (Oy Ss c σ) L.toArray (vq needs σ) o (t.at σ))/\DS E G L ts Ss es0 (i+1) c rest es
 |i,c,o::rest,true::es=>(∃(needs:List NS) (t:TS),ts[i]? =some t/\vu G ts needs/\(needs.all fun n=>ot L o i (n.at fun _=>jj))=true/\ef i o=true/\N5 L es0 i t=true/\
   ∀σ,kc E L.toArray (Oy Ss c σ) (vq needs σ) o (fun x=>Oy Ss (c+1) (JI σ i x)) (fun x=>t.at (JI σ i x)))/\DS E G L ts Ss es0 (i+1) (c+1) rest es
 |_,_,_::_,[]=>False
variable{E:En}{L:List Oper}{Ss:List ((Nat->OI)->List OE)}{c:Nat}{es:List Bool}{lo:Int}{α:Type}{r:Rp α}{x:Nat}{σ:Nat->OI}
def DS.get{ts:List TS}{es0:List Bool}: ∀(r:List Oper) (es:List Bool) (k c:Nat),DS E G L ts Ss es0 k c r es-> ∀(j:Nat) (o:Oper),r[j]? =some o->
    ∃e,es[j]? =some e/\ ∃(needs:List NS) (t:TS),ts[k+j]? =some t/\vu G ts needs/\(needs.all fun n=>ot L o (k+j) (n.at fun _=>jj))=true/\ef (k+j) o=true/\N5 L es0 (k+j) t=true/\
      (match e with
       |false=>o.dst.isSome=true/\ ∃lo hi,Ui L es0 (k+j) lo hi=true/\ ∀c σ,lo<=c->c<=hi->cj E (Oy Ss c σ) L.toArray (vq needs σ) o (t.at σ)
       |true=> ∀σ,kc E L.toArray (Oy Ss (c+gz es j) σ) (vq needs σ) o (fun x=>Oy Ss (c+gz es j+1) (JI σ (k+j) x)) (fun x=>t.at (JI σ (k+j) x))):=by
  intro r
  induction r with
  |nil=>intro es k c _ j o h;simp at h
  |cons p r ih=>
    intro es k c h j o ho
    cases es with
    |nil=>exact h.elim
    |cons e es=>
      cases e with
      |false=>
        obtain⟨⟨needs,t,lo,hi,g1,g2,g3,g4,g5,g6,g7,g8⟩,H⟩:=h
        cases j with
        |zero=>
          simp at ho;subst ho
          exact⟨false,rfl,needs,t,g1,g2,g3,g4,g5,g7,lo,hi,g6,g8⟩
        |succ j=>
          obtain⟨e',g1,g2⟩:=ih es (k+1) _ H j o (by simpa using ho)
          refine⟨e',by simpa using g1,?_⟩
          rw [show k+1+j=k+(j+1)from by omega]at g2
          have e1:c+gz (false::es) (j+1)=c+gz es j:=by simp [gz]
          rw [e1];exact g2
      |true=>
        obtain⟨Y,H⟩:=h
        cases j with
        |zero=>
          simp at ho;subst ho
          exact⟨true,rfl,Y⟩
        |succ j=>
          obtain⟨e',g1,g2⟩:=ih es (k+1) _ H j o (by simpa using ho)
          refine⟨e',by simpa using g1,?_⟩
          rw [show k+1+j=k+(j+1)from by omega]at g2
          have e1:c+gz (true::es) (j+1)=c+1+gz es j:=by simp [gz];omega
          rw [e1];exact g2
structure TY(E:En)(G:lv)(l:List Oper)(ts:List TS)(Ss:List ((Nat->OI)->List OE))(es:List Bool)(done:Array Bool)(a:Act)(w:World)(S:SH)(σ:Nat->OI)(c:Nat):Prop where
 ext:jK E.B E.w0 E.S0 w S
 sat:lJ w S
 own:d9 E.base E.B w S (Oy Ss c σ)
 size:a.tmps.size=E.N.n
 defers:a.defers=E.N.ds
 dsz:done.size=l.length
 down: ∀j o,l[j]? =some o->done.getD j false=true-> ∀e∈o.after,Region.binds .any e=true->done.getD e.on false=true
 old: ∀k t,cn G k=some t->(∀j o,l[j]? =some o->done.getD j false=true->o.dst≠some k)->t.p S (a.tmps.getD k undef)
 new: ∀j o aL p,l[j]? =some o->done.getD j false=true->o.dst=some aL->ts[j]? =some p->(p.at σ).p S (a.tmps.getD aL undef)
 deps: ∀j p,done.getD j false=true->ts[j]? =some p-> ∀k∈p.1,done.getD k false=true
 chain: ∀k,es[k]? =some true->(done.getD k false=true↔gz es k<c)
variable{A hx:Type}{S S' :SH}{a:Act}{b:Nat}{done:Array Bool}{ρ:Type}{f:hx->A->Option (ρ×hx)}{κ:Type}{m:List (κ×β)}{v:Value}{w w' :World}
section
variable{ts:List TS}
def TY.need(h:TY E G L ts Ss es done a w S σ c){i:Nat}(hi:L[i]? =some o)(hun:done.getD i true=false)(hwait: ∀e∈o.after,Region.binds .any e=true->done.getD e.on false=true){needs:List NS}(Y:vu G ts needs)(H:(needs.all fun n=>ot L o i (n.at fun _=>jj))=true):bO E.N S a (vq needs σ):=by
 have hlt:i<done.size:=by rw [h.dsz];exact(q8.1 hi).1
 have hun' :done.getD i false=false:=by
  simp [hlt]at hun ⊢;exact hun
 refine⟨h.size,h.defers,?_⟩
 have key: ∀n∈needs,(n.ty σ).p S (a.tmps.getD n.slot undef):=by
  intro n hn
  have hs:=lw.1 H n hn
  have ho:=Y.mem n hn
  unfold ot NS.at at hs
  unfold Ta at ho
  cases hsrc:n.src with
  |some j=>
   rw [hsrc]at hs ho
   simp only [nP]at hs
   obtain⟨hs1,hs2⟩:=hs
   cases hj:L[j]? with
   |none=>rw [hj]at hs1;cases hs1
   |some p=>
    rw [hj]at hs1
    cases hd:p.dst with
    |none=>simp only [hd]at hs1;cases hs1
    |some aL=>
     simp only [hd]at hs1
     have hd' :=oq hs1
     subst hd'
     have hdone:done.getD j false=true:=by
      unfold A3 at hs2
      obtain⟨e,he0,W⟩:=B2.1 hs2
      have he:e∈o.after:=by simpa using he0
      simp only [nP]at W
      have:=hwait e he W.2
      rwa [oq W.1]at this
     have hm:=ho σ
     cases hf:ts[j]? with
     |none=>rw [hf]at hm;simp at hm
     |some f=>
      rw [hf]at hm
      have e:f.at σ=n.ty σ:=by simpa using hm
      rw [<-e]
      exact h.new j p n.slot f hj hdone hd hf
  |none=>
   rw [hsrc]at hs ho
   refine h.old _ _ (ho σ) fun j p hj hdone hd=>?_
   have:=lw.1 hs p (sI hj)
   simp only [hd,Nat.beq_refl,rk,tu]at this
   unfold A3 at this
   obtain⟨e,he0,W⟩:=B2.1 this
   have he:e∈p.after:=by simpa using he0
   simp only [nP]at W
   have s:=h.down j p hj hdone e he W.2
   rw [oq W.1]at s
   rw [s]at hun'
   cases hun'
 clear Y H
 intro k t hk
 unfold vq at hk
 induction needs with
 |nil=>simp [je,cn]at hk
 |cons n needs ih=>
  simp only [B6]at hk
  unfold je cn at hk
  by_cases W:Nat.beq n.slot k=true
  ·have hb' :Nat.beq (n.at σ).slot k=true:=W
   rw [hb']at hk
   have:=oq W
   subst this
   have h9:some (n.at σ).ty=some t:=by simpa using hk
   have e:n.ty σ=t:=px h9
   rw [<-e]
   exact key n (nQ ..)
  ·rw [Ab]at W
   have hb' :Nat.beq (n.at σ).slot k=false:=W
   rw [hb']at hk
   exact ih (fun m hm=>key m (o4 _ hm)) hk
def TY.step{σ' :Nat->OI}{c' :Nat}(h:TY E G L ts Ss es done a w S σ c){i:Nat}{p0:TS}{C:Nat->Prop}(hi:L[i]? =some o)(hdN: ∀aL,o.dst=some aL->aL<E.N.n)(hs2: ∀aL,o.dst=some aL-> ∀j p,L[j]? =some p->done.getD j false=true->p.dst=some aL->i=j)(hwait: ∀e∈o.after,Region.binds .any e=true->done.getD e.on false=true)(D:ts[i]? =some p0)(hun:done.getD i true=false)(hdep: ∀k∈p0.1,k=i\/done.getD k false=true)(hext:jK C w S w' S')(hC: ∀b,C b->E.base<=b\/E.B b)(hsat:lJ w' S')(hown:d9 E.base E.B w' S' (Oy Ss c' σ'))(hσ: ∀k,k≠i->σ' k=σ k)(hv:(p0.at σ').p S' v)(hch: ∀k,es[k]? =some true->((done.setIfInBounds i true).getD k false=true↔gz es k<c')):
  TY E G L ts Ss es (done.setIfInBounds i true) (a.put o.dst v) w' S' σ' c' :=by
 have hlt:i<done.size:=by rw [h.dsz];exact(q8.1 hi).1
 have hset: ∀j,(done.setIfInBounds i true).getD j false=true->j=i\/done.getD j false=true:=fun j hj=>by
  by_cases hij:i=j
  ·exact .inl hij.symm
  ·rw [vm false hij]at hj;exact .inr hj
 have hseti:(done.setIfInBounds i true).getD i false=true:=by simp [hlt]
 have hun' :done.getD i false=false:=by simp [hlt]at hun ⊢;exact hun
 have hput: ∀k,(∀aL,o.dst=some aL->aL≠k)->(a.put o.dst v).tmps.getD k undef=a.tmps.getD k undef:=fun k hk=>by
  cases hd:o.dst with
  |none=>rfl
  |some aL=>
   have hda:aL<a.tmps.size:=by rw [h.size];exact hdN aL hd
   rw [sW hda,aV (hk aL hd)]
 refine⟨h.ext.step hext hC,hsat,hown,?_,?_,by simp [h.dsz],fun j p hj hdone e he W=>?_,fun k u hk hno=>?_,fun j p d' u hj hdone hd' hu=>?_,fun j u hj hu k hk=>?_,hch⟩
 ·cases o.dst with
  |none=>exact h.size
  |some aL=>simp [Act.put,h.size]
 ·cases o.dst with
  |none=>exact h.defers
  |some aL=>exact h.defers
 ·rcases hset j hdone with rfl|hj'
  ·rw [hi]at hj
   have:o=p:=by simpa using hj
   subst this
   exact xn (hwait e he W)
  ·exact xn (h.down j p hj hj' e he W)
 ·rw [hput k fun aL hd e=>hno i o hi hseti (by rw [hd,e])]
  exact u.mono hext.keep (h.old k u hk fun j p hj hdone=>hno j p hj (xn hdone))
 ·by_cases hij:j=i
  ·subst hij
   rw [hi]at hj
   have:o=p:=by simpa using hj
   subst this
   have hda:d' <a.tmps.size:=by rw [h.size];exact hdN d' hd'
   rw [hd',sW hda,bo rfl]
   rw [D]at hu
   have:p0=u:=by simpa using hu
   subst this
   exact hv
  ·have hj' :=(hset j hdone).resolve_left hij
   rw [hput d' fun aL hd e=>by subst e;exact hij (hs2 aL hd j p hj hj' hd').symm]
   have e1:u.at σ' =u.at σ:=congrArg u.2 (Hj fun k hk=>hσ k fun e=>by
     subst e
     rw [h.deps j u hj' hu k hk]at hun';cases hun')
   rw [e1]
   exact Ty.mono _ hext.keep (h.new j p d' u hj hj' hd' hu)
 ·rcases hset j hj with rfl|hj'
  ·rw [D]at hu
   have:p0=u:=by simpa using hu
   subst this
   rcases hdep k hk with rfl|h'
   ·exact hseti
   ·exact xn h'
  ·exact xn (h.deps j u hj' hu k hk)
end
variable{ah:Exit->Act->World->Prop}
def Hw{l t:List Oper}{ts:List TS}(hsl:vR E.N.n [] l=true)(hlen:ts.length=l.length)(hesl:es.length=l.length)(hd:DS E G (l++t) ts Ss es 0 0 l es)(hch:La (l++t) es=true)(D:xC (l++t) l.length t.length=true)(hQ: ∀a w S σ,St E (Oy Ss (gz es es.length) σ) (Ig l (Q4 ts σ) G) a w S->wpListIn (fw E.r) 0 E.P (l++t).toArray ah t a w):
  ∀(fuel:Nat) (done:Array Bool) (a:Act) (w:World) (S:SH) (σ:Nat->OI) (c:Nat),ld done=fuel->(∀j,l.length<=j->done.getD j false=false)->c<=gz es es.length->TY E G (l++t) ts Ss es done a w S σ c->wpAnyIn (fw E.r) 0 E.P .any (l++t).toArray ah fuel done a w:=by
 have hL1: ∀i o,i<l.length->(l++t)[i]? =some o->l[i]? =some o:=fun i o hi h=>by rwa [yS hi]at h
 have hL2: ∀i o,l[i]? =some o->(l++t)[i]? =some o:=fun i o h=>by rw [yS (q8.1 h).1];exact h
 have htail: ∀m o,l.length<=m->(l++t)[m]? =some o->va (l++t) m=true/\ef m o=true:=fun m o hm ho=>by
  have hml:m<(l++t).length:=(q8.1 ho).1
  rw [kJ]at hml
  unfold xC at D
  have:=lw.1 D (m-l.length) (by simp;omega)
  rw [show l.length+(m-l.length)=m from by omega,ho]at this
  simp only [nP]at this
  exact⟨this.1,this.2.1⟩
 have hget:=fun i o (hi:l[i]? =some o)=>DS.get l es 0 0 hd i o hi
 have hedge: ∀i o,(l++t)[i]? =some o->ef i o=true:=fun i o hi=>by
  rcases nf i l.length with h|h
  ·obtain⟨_,_,_,_,_,_,_,h,_⟩:=hget i o (hL1 i o h hi)
   simpa using h
  ·exact(htail i o h hi).2
 obtain⟨hs1,hs2⟩:=A5 l [] hsl
 have fin: ∀fuel done a w S σ c,ld done=fuel->(∀j,l.length<=j->done.getD j false=false)->c<=gz es es.length->TY E G (l++t) ts Ss es done a w S σ c->(∀i,i<l.length->done.getD i false=true)->wpAnyIn (fw E.r) 0 E.P .any (l++t).toArray ah fuel done a w:=by
  intro fuel done a w S σ c hu hfree hcle h hall
  have hcc:c=gz es es.length:=by
   rcases nf c (gz es es.length)with hlt|hge
   ·obtain⟨i,Y,H,s⟩:=vf hlt
    have:=(h.chain i H).1 (hall i (by omega))
    omega
   ·omega
  subst hcc
  refine xY (n:=l.length) (fun m o hm ho=>(htail m o hm ho).1) hedge t l.length done fuel a w (dY _) (by simp) h.dsz (fun j hj=>⟨fun hjd=>?_,fun hlt=>hall j hlt⟩) hu
   (hQ a w S σ ⟨h.ext,h.sat,h.own,h.size,h.defers,fun j u hj=>?_⟩)
  ·rcases nf j l.length with h' |h'
   ·exact h'
   ·rw [hfree j h']at hjd;cases hjd
  ·rcases Fe l (Q4 ts σ) j u (by unfold Q4;rw [Ez];exact hlen) hj with⟨i,o,Y,H,s⟩|⟨Y,H⟩
   ·unfold Q4 at s
    rw [Hi]at s
    cases hf:ts[i]? with
    |none=>rw [hf]at s;simp at s
    |some f=>
     rw [hf]at s
     have e:f.at σ=u:=by simpa using s
     rw [<-e]
     exact h.new i o j f (hL2 i o Y) (hall i (q8.1 Y).1) H hf
   ·refine h.old j u Y fun i o ho hdn=>?_
    rcases nf i l.length with h' |h'
    ·exact H o (sI (hL1 i o h' ho))
    ·rw [hfree i h']at hdn;cases hdn
 have lower: ∀done a w S σ c i,(∀j,l.length<=j->done.getD j false=false)->TY E G (l++t) ts Ss es done a w S σ c->i∈Region.ready .any (l++t).toArray done->l.length<=i-> ∀j,j<l.length->done.getD j false=true:=by
  intro done a w S σ c i hfree h hi hge j hj
  obtain⟨hun,p,hp,hwait⟩:=rU.1 hi
  have hp' :(l++t)[i]? =some p:=by simpa using hp
  have hcov:=(htail i p hge hp').1
  unfold va at hcov
  have hre:=lw.1 hcov j (by simp;omega)
  exact ga h.down _ i j (fun q hq e he W=>by
   have:q=p:=by rw [hp']at hq;simpa using hq.symm
   subst this
   exact hwait e he W) hre
 have hchain: ∀i j,j<i->es[i]? =some true->es[j]? =some true->m5 (l++t) (l++t).length i j=true:=fun i j hij Y H=>by
  unfold La at hch
  have hil:i<es.length:=(q8.1 Y).1
  have:=lw.1 (lw.1 hch i (by simpa using hil)) j (by simpa using hij)
  rw [Y,H]at this
  simpa using this
 intro fuel
 induction fuel with
 |zero=>
  intro done a w S σ c hu hfree hcle h
  exact fin 0 done a w S σ c hu hfree hcle h fun i hi=>sQ hu (by rw [h.dsz,kJ];omega)
 |succ fuel ih=>
  intro done a w S σ c hu hfree hcle h
  by_cases hall: ∀i,i<l.length->done.getD i false=true
  ·exact fin _ done a w S σ c hu hfree hcle h hall
  have hready0: ∀m i,i<m->i<l.length->Region.ready .any (l++t).toArray done=[]->done.getD i false=true:=by
   intro m
   induction m with
   |zero=>intro i h;omega
   |succ m ihm=>
    intro i him hil hr
    have his:i<done.size:=by rw [h.dsz,kJ];omega
    by_cases hdn:done.getD i true=true
    ·rw [<-n7 his];exact hdn
    ·exfalso
     obtain⟨o,ho⟩: ∃o,(l++t)[i]? =some o:=⟨l[i],hL2 i _ (sG hil)⟩
     have hmem:i∈Region.ready .any (l++t).toArray done:=by
      rw [rU]
      refine⟨by simpa using hdn,o,by simpa using ho,fun e he W=>?_⟩
      have:=hedge i o ho
      unfold ef at this
      have:=lw.1 this e (by simpa using he)
      simp only [W,rk,tu,tt]at this
      exact ihm e.on (by omega) (by omega) hr
     rw [hr]at hmem;cases hmem
  refine⟨fun hr=>absurd (fun i hi=>hready0 (i+1) i (by omega) hi hr) hall,fun i hi=>?_⟩
  have hil:i<l.length:=by
   rcases nf i l.length with h' |h'
   ·exact h'
   ·exact absurd (lower done a w S σ c i hfree h hi h') hall
  obtain⟨hun,o,ho,hwait⟩:=rU.1 hi
  have ho' :(l++t)[i]? =some o:=by simpa using ho
  have hol:=hL1 i o hil ho'
  obtain⟨e,he,needs,u,Y,H,s,_,h4,h5⟩:=hget i o hol
  rw [vw]at Y s h4
  have hF:=h.need ho' hun hwait H s
  have his:i<done.size:=by rw [h.dsz,kJ];omega
  have hun' :done.getD i false=false:=by rw [<-n7 his];exact hun
  have hu' :ld (done.setIfInBounds i true)=fuel:=by have:=qf hun;omega
  have huq: ∀aL,o.dst=some aL-> ∀j p,(l++t)[j]? =some p->done.getD j false=true->p.dst=some aL->i=j:=fun aL hdd j p hj hjd hpd=>by
   rcases nf j l.length with h' |h'
   ·exact hs2 i j o p aL hol (hL1 j p h' hj) hdd hpd
   ·rw [hfree j h']at hjd;cases hjd
  have hfree' : ∀j,l.length<=j->(done.setIfInBounds i true).getD j false=false:=fun j hj=>by
   rw [vm false (by omega)];exact hfree j hj
  have hbl:E.base<=w.heap.size:=h.ext.size
  have hwaits: ∀q,(l++t)[i]? =some q-> ∀e∈q.after,Region.binds .any e=true->done.getD e.on false=true:=fun q hq e he W=>by
   have:q=o:=by rw [ho']at hq;simpa using hq.symm
   subst this
   exact hwait e he W
  have hdpp: ∀k∈u.1,k=i\/done.getD k false=true:=fun k hk=>by
   have:=lw.1 h4 k hk
   simp only [nP,z6]at this
   rcases this.2 with W|W
   ·exact .inl (oq W)
   ·exact .inr (ga h.down _ i k hwaits W)
  have hdNN: ∀aL,o.dst=some aL->aL<E.N.n:=fun aL hd=>(hs1 o (sI hol) aL hd).1
  unfold wpOpIn
  rw [ho]
  show if _ then _ else _
  cases e with
  |false=>
   simp only at h5
   obtain⟨hdS,lo,hi',hwin,h5⟩:=h5
   rw [vw]at hwin
   obtain⟨aL,hdd⟩:=Option.isSome_iff_exists.1 hdS
   have hdN:=(hs1 o (sI hol) aL hdd).1
   unfold Ui at hwin
   rw [nP]at hwin
   obtain⟨hw1,hw2⟩:=hwin
   have hw1' :=qR hw1
   have hwk: ∀k,es[k]? =some true->(Nat.ble lo (gz es k)=true\/m5 (l++t) (l++t).length i k=true)/\(Nat.blt (gz es k) hi' =true\/m5 (l++t) (l++t).length k i=true):=fun k hk=>by
    have hkl:k<es.length:=(q8.1 hk).1
    have:=lw.1 hw2 k (by simpa using hkl)
    rw [hk]at this
    simpa using this
   have hlo:lo<=c:=by
    rcases nf c lo with hlt|hge
    ·exfalso
     obtain⟨k,hk1,hk2,hk3⟩:=vf (es:=es) (c:=c) (k:=es.length) (by omega)
     rcases(hwk k hk2).1 with W|W
     ·have:=qR W;omega
     ·have:=(h.chain k hk2).1 (ga h.down _ i k hwaits W)
      omega
    ·exact hge
   have hhi:c<=hi' :=by
    rcases nf hi' c with hlt|hge
    ·exfalso
     obtain⟨k,hk1,hk2,hk3⟩:=vf (es:=es) (c:=hi') (k:=es.length) (by omega)
     rcases(hwk k hk2).2 with W|W
     ·simp only [tt]at W;omega
     ·have hkd:done.getD k false=true:=(h.chain k hk2).2 (by omega)
      have:=ga h.down _ k i (fun q hq e he W=>h.down k q hq hkd e he W) W
      rw [this]at hun';cases hun'
    ·exact hge
   have h6:=h5 c σ hlo hhi a w S h.sat h.own hF
   have hch' : ∀k,es[k]? =some true->((done.setIfInBounds i true).getD k false=true↔gz es k<c):=fun k hk=>by
    have hne:i≠k:=fun e=>by subst e;rw [he]at hk;cases hk
    rw [vm false hne];exact h.chain k hk
   by_cases hw:Region.wanted o (yielded (l++t).toArray a.tmps)=true
   ·rw [bo hw]at h6 ⊢
    refine kS (fun a' w' ⟨v,S',ha,X,hs,hv⟩=>?_) h6
    subst ha
    exact ih _ _ _ S' _ c hu' hfree' hcle (h.step ho' hdNN huq hwait Y hun hdpp X (fun _ W=>W.elim) hs (h.own.ext0 X) (fun _ _=>rfl) hv hch')
   ·rw [aV hw]at h6 ⊢
    exact⟨fun _ _=>trivial,ih _ _ _ S _ c hu' hfree' hcle (h.step ho' hdNN huq hwait Y hun hdpp (iP sJ _ _) (fun _ W=>W.elim) h.sat h.own (fun _ _=>rfl) h6 hch')⟩
  |true=>
   simp only [vw]at h5
   -- it is the next one of the chain
   have hca:gz es i=c:=by
    have hn: ¬gz es i<c:=fun hlt=>by rw [(h.chain i he).2 hlt]at hun';cases hun'
    rcases nf c (gz es i)with hlt|hge
    ·exfalso
     obtain⟨k,hk1,hk2,hk3⟩:=vf hlt
     have hkd:done.getD k false=true:=ga h.down _ i k hwaits (hchain i k hk1 he hk2)
     have:=(h.chain k hk2).1 hkd
     omega
    ·omega
   subst hca
   have h6:=h5 σ a w S h.sat h.own hF hbl
   have hch' : ∀k,es[k]? =some true->((done.setIfInBounds i true).getD k false=true↔gz es k<gz es i+1):=fun k hk=>by
    by_cases hik:i=k
    ·subst hik
     constructor
     ·intro _;omega
     ·intro _;simp [his]
    ·rw [vm false hik,h.chain k hk]
     constructor
     ·intro h;omega
     ·intro hlt
      rcases nf i k with hlk|hlk
      ·have:=Dy hlk he;omega
      ·exact Dy (by omega) hk
   have hcle' :gz es i+1<=gz es es.length:=Dy (by omega) he
   by_cases hw:Region.wanted o (yielded (l++t).toArray a.tmps)=true
   ·rw [bo hw]at h6 ⊢
    refine kS (fun a' w' ⟨v,S',x,ha,X,hs,hown,hv⟩=>?_) h6
    subst ha
    exact ih _ _ _ S' _ _ hu' hfree' hcle' (h.step ho' hdNN huq hwait Y hun hdpp X (fun b ⟨f,hf,W⟩=>(d9.mem h.own f hf).2 b W) hs hown (fun k hk=>FW σ x hk) hv hch')
   ·rw [aV hw]at h6 ⊢
    obtain⟨x,hown,hv⟩:=h6
    exact⟨fun _ _=>trivial,ih _ _ _ S _ _ hu' hfree' hcle' (h.step ho' hdNN huq hwait Y hun hdpp (iP sJ _ _) (fun _ W=>W.elim) h.sat hown (fun k hk=>FW σ x hk) hv hch')⟩
variable{O:List OE}{st:TypeId}
def iv{id:Nat}(m:Nat)(ts:List TS)(es:List Bool)(Ss:List ((Nat->OI)->List OE))(hO:Ss[0]? =some fun _=>O)(hm:E.P.follows .mixedOrders=true)(hsl:vR E.N.n [] (L.take m)=true)(hlen:ts.length=(L.take m).length)(hesl:es.length=(L.take m).length)(hch:La L es=true)(D:xC L (L.take m).length (L.drop m).length=true)(hd:DS E G L ts Ss es 0 0 (L.take m) es)(k: ∀σ:Nat->OI,RG E L.toArray ah (L.drop m) (Oy Ss (gz es es.length) σ) (Ig (L.take m) (Q4 ts σ) G)):CG E ah (.region id L.toArray true) O G:=fun a w S st=>by
 have hL:L=L.take m++L.drop m:=(rQ m L).symm
 generalize L.take m=l at hL hsl hlen hesl D hd k
 generalize L.drop m=t at hL D k
 subst hL
 refine wpIn_region_any hm ?_
 obtain⟨he,hs⟩:=wO (w:=w) st.sat
 have hO0:Oy Ss 0 (fun _=>jj)=O:=by unfold Oy;rw [hO]
 refine Hw hsl hlen hesl hd hch D (fun a w S σ st=>k σ a w S st) _ _ _ _ S (fun _=>jj) 0 ?_ (fun j _=>?_) (oC _)
  ⟨st.ext.step0 he,hs,by rw [hO0];exact st.own.ext0 he,st.facts.size,st.facts.defers,by simp,fun j o hj hdone=>?_,fun k t hk _=>st.facts.at_ k t hk,fun j o aL t hj hdone=>?_,fun j p hdone=>?_,fun k _=>⟨fun hdone=>?_,fun h=>(by omega)⟩⟩
 ·unfold ld;rw [Lt,Lr];simp
 ·simp [xW];split<;>rfl
 ·simp [xW]at hdone
  split at hdone<;>simp at hdone
 ·simp [xW]at hdone
  split at hdone<;>simp at hdone
 ·simp [xW]at hdone
  split at hdone<;>simp at hdone
 ·simp [xW]at hdone
  split at hdone<;>simp at hdone
def mW{p:Nat->(Nat->OI)->Prop}{lo:Nat}(h: ∀σ,p lo σ): ∀c σ,lo<=c->c<=lo->p c σ:=fun c σ Y H=>by
 have:c=lo:=by omega
 subst this;exact h σ
def By{p:Nat->(Nat->OI)->Prop}{lo hi:Nat}(h: ∀σ,p lo σ)(k: ∀c σ,lo+1<=c->c<=hi->p c σ): ∀c σ,lo<=c->c<=hi->p c σ:=fun c σ Y H=>by
 by_cases e:c=lo
 ·subst e;exact h σ
 ·exact k c σ (by omega) H
variable{after:Array Edge}{g:Option (Nat×Bool)}{ok:α->Prop}{op:Op}{pos:String}{post:OI->List OE}
def Dl{ty:TypeId}(hnd: ∀c,op≠ .defer c)(h: ∀a w S,lJ w S->d9 E.base E.B w S O->bO E.N S a G->E.base<=w.heap.size-> ∃w' S' x,(execOp a.eval ⟨none,op,ty,pos,after,g⟩).run E.P w= .ok .skip w' /\jK (Fj O) w S w' S' /\lJ w' S' /\d9 E.base E.B w' S' (post x)):
  EffOK E O G ⟨none,op,ty,pos,after,g⟩ post (fun _=>Cs):=fun a w S hs ho hf W=>by
 obtain⟨w',S',x,Y,H,s,h4⟩:=h a w S hs ho hf W
 refine⟨hnd,?_⟩
 rw [Y]
 exact⟨undef,S',x,rfl,H,s,h4,trivial⟩

abbrev HL:=List (Nat×Value)
def zm:HL->Nat->Option Value
 |[],_=>none
 |p::hs,o=>bif Nat.beq p.1 o then some p.2 else zm hs o
def rK: ∀{hs:HL} {o:Nat} {v:Value},zm hs o=some v->(o,v)∈hs
 |[],_,_,h=>by cases h
 |p::hs,o,v,h=>by
  unfold zm at h
  by_cases W:Nat.beq p.1 o=true
  ·rw [W]at h
   have e1:=oq W
   have e2:p.2=v:=px h
   subst e1 e2
   exact nQ ..
  ·rw [Ab]at W
   rw [W]at h
   exact o4 _ (rK h)
def rH{α:Type}(r:Rp α)(hs:HL):Rp α where
 sz:=r.sz
 agg:=r.agg
 rc:=fun S cs x=>r.rc S cs x/\ ∀p∈hs,cs[p.1]? =some p.2
 mono:=fun h k=>⟨r.mono h k.1,k.2⟩
 len:=fun k=>r.len k.1
 one:=fun k=>r.one k.1
 sc:=r.sc
variable{cs:List Value}{off:Nat}
def ee{hs:HL}{get:α->β}(h:kP r off q get):kP (rH r hs) off q get:=fun S cs x k=>h S cs x k.1
def N7(h:cs[off]? =some v):(cs.drop off).take 1=[v]:=by
 have hlt:=(q8.1 h).1
 rw [Ae hlt,(q8.1 h).2]
 rfl
def Zz{hs:HL}(h:zm hs off=some v):kP (rH r hs) off rV (fun _=>v):=fun S cs x k=>by
 have Y:=k.2 _ (rK h)
 exact⟨N7 Y,r.one k.1 v (sI Y)⟩
def HZ(z:List Value):HL->Prop
 |[]=>True
 |p::hs=>z[p.1]? =some p.2/\HZ z hs
variable{z:List Value}
def HZ.all: ∀{hs:HL},HZ z hs-> ∀p∈hs,z[p.1]? =some p.2
 |_::_,⟨h,_⟩,_,.head _=>h
 |_::_,⟨_,h⟩,_,.tail _ hm=>HZ.all h _ hm
def zH{x:α}{hs:HL}(h: ∀S,r.rc S z x)(k:HZ z hs): ∀S,(rH r hs).rc S z x:=fun S=>⟨h S,k.all⟩
def UP(hs:HL)(off sz:Nat):Bool:=hs.all fun p=>Nat.blt p.1 off||Nat.ble (off+sz) p.1
def VZ(hs:HL)(off sz:Nat)(v:Option Value):HL->Prop
 |[]=>True
 |p::l=>((v=some p.2/\p.1=off/\sz=1)\/(zm hs p.1=some p.2/\(Nat.blt p.1 off||Nat.ble (off+sz) p.1)=true))/\VZ hs off sz v l
variable{sz:Nat}
def VZ.all{hs:HL}{v:Option Value}: ∀{l:HL},VZ hs off sz v l-> ∀p∈l,(v=some p.2/\p.1=off/\sz=1)\/(zm hs p.1=some p.2/\(Nat.blt p.1 off||Nat.ble (off+sz) p.1)=true)
 |_::_,⟨h,_⟩,_,.head _=>h
 |_::_,⟨_,h⟩,_,.tail _ hm=>VZ.all h _ hm
def tm{ds:List Value}{k:Nat}(hl:ds.length=sz)(hoff:off+sz<=cs.length)(h:(Nat.blt k off||Nat.ble (off+sz) k)=true):(cs.take off++ds++cs.drop (off+sz))[k]? =cs[k]? :=by
 simp only [z6,tt,Nat.ble_eq]at h
 have D:(cs.take off).length=off:=by simp;omega
 rcases h with h|h
 ·rw [yS (by simp;omega),yS (by omega),xp h]
 ·rw [vz (by simp;omega),uB]
  congr 1
  simp only [kJ,D,hl];omega
def QH{ds:List Value}(hd:ds=[v])(hoff:off+1<=cs.length):(cs.take off++ds++cs.drop (off+1))[off]? =some v:=by
 subst hd
 have D:(cs.take off).length=off:=by simp;omega
 rw [yS (by simp;omega),vz (by omega),D,vn]
 rfl
variable{set:α->β->α}{y:Code}
def nq{hs hs' :HL}{x:α}{y:β}(h:eD r off q set)(hk:VZ hs off q.sz none hs')(hoff:Nat.ble (off+q.sz) r.sz=true):ur (rH r hs) (rH r hs') off q x y (set x y):=fun S cs ds Y H=>by
 refine⟨h S cs x ds y Y.1 H,fun p hp=>?_⟩
 rcases hk.all p hp with⟨e,_⟩|⟨g1,g2⟩
 ·cases e
 ·have hl:=r.len Y.1
  rw [tm (q.len H) (by have:=qR hoff;omega) g2]
  exact Y.2 _ (rK g1)
def EU{hs:HL}(h:eD r off q set)(hk:UP hs off q.sz=true)(hoff:Nat.ble (off+q.sz) r.sz=true):eD (rH r hs) off q set:=fun S cs x ds y Y H=>by
 refine⟨h S cs x ds y Y.1 H,fun p hp=>?_⟩
 have hl:=r.len Y.1
 rw [tm (q.len H) (by have:=qR hoff;omega) (lw.1 hk p hp)]
 exact Y.2 _ hp
variable{T U:TypeId}{hg:MV β}{agg:Bool}{bytes cap:Nat}{dst:Option Tmp}{ops:Array Oper}{rest:List Oper}{xs:List α}
section
variable{c:Code}{e:Exit}
section
variable{ty:TypeId}
def eE{t:OI->Ty}(h:EffOK E O G ⟨none,op,ty,pos,after,none⟩ post t)(k: ∀x,RG E ops ah rest (post x) G):RG E ops ah (⟨none,op,ty,pos,after,none⟩::rest) O G:= .of rfl fun a w S st=>
 nY (fun a' w' ⟨v,S',x,ha,X,hs,ho,hv⟩=>by
  subst ha
  exact k x _ _ S' ⟨st.ext.step X fun b ⟨f,hf,W⟩=>(d9.mem st.own f hf).2 b W,hs,ho,st.facts.mono X.keep⟩) (h a w S st.sat st.own st.facts st.base_le)
def dc{γ:Type}{r' :Rp γ}{x:α}{x' :γ}{y:β}{v:Operand}(ti:TI E.P U sz bytes agg z)(hsz:q.sz=sz)(hset:ur r r' off q x y x')(hoff:Nat.ble (off+q.sz) r.sz=true)(hp:aI E.N G p (K (M b off)))(hv:aI E.N G v (tD q y)):EffOK E (Z r T b x::O) G ⟨none,.store U p v,ty,pos,after,g⟩ (fun _=>Z r' T b x' ::O) (fun _=>Cs):=Dl (fun _ h=>(by cases h)) fun a w S hs ho hf W=>by
 have Y:a.eval p=M b off:=hp S a hf
 obtain⟨ds,H,s⟩:=hv S a hf
 obtain⟨⟨hno,cur,h5,h6⟩,_⟩:=ho.1
 have hl:=r.len h6
 have hoff' :=qR hoff
 obtain⟨w',hr,e1,e2,e3,e4,e5,e6⟩:=jF ti hsz s h5 (off:=off) (by simp at hl;omega)
 have hrun:(execOp a.eval ⟨none,.store U p v,ty,pos,after,g⟩).run E.P w= .ok .skip w' :=by
  simp [execOp,Y,H,Instr.storeAt,M,Instr.sureAddr,hr]
 obtain⟨g1,g2,g3⟩:=mN (O:=O) hs (Z r T b x) (Z r' T b x') ho (fun _=>rR) (fun _=>rR) ⟨e1,e2,e3,e4.1,e4.2⟩ e6 ⟨hno,_,e5,by simpa using hset S _ _ h6 s⟩ hno
 exact⟨w',S,jj,hrun,g1.more fun k hk=>⟨_,nQ ..,hk⟩,g2,g3⟩
def lp{hs hs' :HL}{x:α}{y:β}{u:Value}{v:Operand}(ti:TI E.P U 1 bytes false z)(hsz:q.sz=1)(hag:q.agg=false)(hset:eD r off q set)(hoff:Nat.ble (off+1) r.sz=true)(hk:VZ hs off 1 (some u) hs')(hp:aI E.N G p (K (M b off)))(hv:aI E.N G v (tD q y))(hu:aI E.N G v (K u)):EffOK E (Z (rH r hs) T b x::O) G ⟨none,.store U p v,ty,pos,after,g⟩ (fun _=>Z (rH r hs') T b (set x y)::O) (fun _=>Cs):=Dl (fun _ h=>(by cases h)) fun a w S hsat ho hf W=>by
 have Y:a.eval p=M b off:=hp S a hf
 obtain⟨ds,H,s⟩:=hv S a hf
 have hu' :a.eval v=u:=hu S a hf
 obtain⟨⟨hno,cur,h5,h6⟩,_⟩:=ho.1
 have hl:=r.len h6.1
 have hoff' :=qR hoff
 have hdl:=q.len s
 have hds:ds=[u]:=by
  obtain⟨aL,hd⟩:=List.length_eq_one_iff.1 (by rw [hdl,hsz]:ds.length=1)
  subst hd
  have e1:q.val [aL]=aL:=by simp [Rp.val,hag]
  rw [H,e1]at hu'
  rw [hu']
 obtain⟨w',hr,e1,e2,e3,e4,e5,e6⟩:=jF ti hsz s h5 (off:=off) (by simp at hl;omega)
 have hrun:(execOp a.eval ⟨none,.store U p v,ty,pos,after,g⟩).run E.P w= .ok .skip w' :=by
  simp [execOp,Y,H,Instr.storeAt,M,Instr.sureAddr,hr]
 rw [hsz]at e5
 have hnew:(rH r hs').rc S (cur.toList.take off++ds++cur.toList.drop (off+1)) (set x y):=by
  have h7:=hset S _ _ _ _ h6.1 s
  rw [hsz]at h7
  refine⟨h7,fun p hp=>?_⟩
  rcases hk.all p hp with⟨f1,f2,_⟩|⟨f1,f2⟩
  ·rw [f2]
   exact QH (by rw [hds,px f1]) (by omega)
  ·rw [tm (by rw [hdl,hsz]) (by omega) f2]
   exact h6.2 _ (rK f1)
 obtain⟨g1,g2,g3⟩:=mN (O:=O) hsat (Z (rH r hs) T b x) (Z (rH r hs') T b (set x y)) ho (fun _=>rR) (fun _=>rR) ⟨e1,e2,e3,e4.1,e4.2⟩ e6 ⟨hno,_,e5,by simpa using hnew⟩ hno
 exact⟨w',S,jj,hrun,g1.more fun k hk=>⟨_,nQ ..,hk⟩,g2,g3⟩
end
section
variable{ty:TypeId}
def cL{hs:HL}{x:α}{u:Value}(ti:TI E.P U 1 bytes false z)(hk:zm hs off=some u)(hm:Z (rH r hs) T b x∈O)(hp:aI E.N G p (K (M b off))):
  cm E O G ⟨dst,.load U p,ty,pos,after,g⟩ (K u):=(aD (q:=rV) ti rfl rfl (Zz hk) hm hp).imp fun _ _ h=>(wQ.1 h).1
def mE{q:Rp α}{r:Rp β}{hs:HL}{x:β}{hg:TypeId}{l:Option Nat}(ti:TI E.P U 1 bytes false z)(hk:zm hs off=some (au l cap xs.length))(hm:Z (rH r hs) T b x∈O)(hm2:tip q hg l cap xs∈O)(hp:aI E.N G p (K (M b off))):
  cm E O G ⟨dst,.load U p,ty,pos,after,g⟩ (tO q l cap xs):=fun a w S hs' ho hf=>
 nY (fun _ _ ⟨v,S',Y,H,s,h4⟩=>⟨v,S',Y,H,s,h4,by
  have h5:v=au l cap xs.length:=h4
  rw [h5]
  exact mC (((ho.ext0 H).mem _ hm2).1)⟩) (cL (g:=g) (ty:=ty) (pos:=pos) (after:=after) (dst:=dst) ti hk hm hp a w S hs' ho hf)
def RN{x:Operand}(Y: ∀S v,t.p S v->v.oneCell' =true)(X:aI E.N G x t):cm E O G ⟨dst,.box T x,ty,pos,after,g⟩ (c8 (rT t) ()):=
 Ps (fun S a hf=>Zm.2 ⟨Y _ _ (X S a hf),X S a hf⟩)
end
def Rt:HL->HL->Prop
 |[],_=>True
 |p::l,hs=>zm hs p.1=some p.2/\Rt l hs
def Rt.all{hs:HL}: ∀{l:HL},Rt l hs-> ∀p∈l,p∈hs
 |_::_,⟨h,_⟩,_,.head _=>rK h
 |_::_,⟨_,h⟩,_,.tail _ hm=>Rt.all h _ hm
end

variable{O' :List OE}
def EffOK.perm{t:OI->Ty}(h:EffOK E O' G o post t)(k: ∀{w S},d9 E.base E.B w S O->d9 E.base E.B w S O')(m: ∀f∈O',f∈O):EffOK E O G o post t:=fun a w S hs ho hf W=>
 nY (fun _ _ ⟨v,S',x,Y,H,s,h4,h5⟩=>⟨v,S',x,Y,H.more fun _ ⟨f,hf,hk⟩=>⟨f,m f hf,hk⟩,s,h4,h5⟩) (h a w S hs (k ho) hf W)
variable{x0 x1 x2 x3 x4 x5:OE}
namespace EffOK
section
variable{t:OI->Ty}
def fr1(h:EffOK E (x1::x0::O) G o post t):EffOK E (x0::x1::O) G o post t:=h.perm (fun hw=>d9.swap hw) (fun f hf=>by simp only [j8]at hf ⊢;rcases hf with h|h|h<;>simp [h])
def fr2(h:EffOK E (x2::x0::x1::O) G o post t):EffOK E (x0::x1::x2::O) G o post t:=h.perm (fun hw=>qC hw) (fun f hf=>by simp only [j8]at hf ⊢;rcases hf with h|h|h|h<;>simp [h])
def fr3(h:EffOK E (x3::x0::x1::x2::O) G o post t):EffOK E (x0::x1::x2::x3::O) G o post t:=h.perm (fun hw=>sE hw) (fun f hf=>by simp only [j8]at hf ⊢;rcases hf with h|h|h|h|h<;>simp [h])
def fr4(h:EffOK E (x4::x0::x1::x2::x3::O) G o post t):EffOK E (x0::x1::x2::x3::x4::O) G o post t:=h.perm (fun hw=>vi hw) (fun f hf=>by simp only [j8]at hf ⊢;rcases hf with h|h|h|h|h|h<;>simp [h])
def fr5(h:EffOK E (x5::x0::x1::x2::x3::x4::O) G o post t):EffOK E (x0::x1::x2::x3::x4::x5::O) G o post t:=h.perm (fun hw=>sD hw) (fun f hf=>by simp only [j8]at hf ⊢;rcases hf with h|h|h|h|h|h|h<;>simp [h])
def fr6{x6:OE}(h:EffOK E (x6::x0::x1::x2::x3::x4::x5::O) G o post t):EffOK E (x0::x1::x2::x3::x4::x5::x6::O) G o post t:=h.perm (fun hw=>sC hw) (fun f hf=>by simp only [j8]at hf ⊢;rcases hf with h|h|h|h|h|h|h|h<;>simp [h])
def fr7{x6 x7:OE}(h:EffOK E (x7::x0::x1::x2::x3::x4::x5::x6::O) G o post t):EffOK E (x0::x1::x2::x3::x4::x5::x6::x7::O) G o post t:=h.perm (fun hw=>DG hw) (fun f hf=>by simp only [j8]at hf ⊢;rcases hf with h|h|h|h|h|h|h|h|h<;>simp [h])
def post_imp{post' :OI->List OE}(h:EffOK E O G o post t)(k: ∀{w S x},d9 E.base E.B w S (post x)->d9 E.base E.B w S (post' x)):EffOK E O G o post' t:=fun a w S hs ho hf W=>
 nY (fun _ _ ⟨v,S',x,Y,H,s,h4,h5⟩=>⟨v,S',x,Y,H,s,k h4,h5⟩) (h a w S hs ho hf W)
end
end EffOK
variable{P:Program}{args:A->List Ty}{res:ρ->Ty}
section
variable{ty:TypeId}
def K5{zs:List α}{y v:α}{i:Int}{x:Operand}(ti:TI E.P U sz bytes agg z)(hsz:r.sz=sz)(hy:gG xs i=some y)(hz:xs.set i.toNat v=zs)(hp:aI E.N G p (K (M b (i.toNat*r.sz))))(hv:aI E.N G x (tD r v)):EffOK E (Z (mZ r n) T b xs::O) G ⟨none,.store U p x,ty,pos,after,g⟩ (fun _=>Z (mZ r n) T b zs::O) (fun _=>Cs):=Dl (fun _ h=>(by cases h)) fun a w S hsat hown hf hbase=>by
 subst hz
 have Y:a.eval p=M b (i.toNat*r.sz):=hp S a hf
 obtain⟨ds,H,s⟩:=hv S a hf
 obtain⟨⟨hno,cur,h5,h6⟩,_⟩:=hown.1
 obtain⟨h0,hy'⟩:=mG hy
 have hlt:i.toNat<xs.length:=(q8.1 hy').1
 have hl:=jT h6.2
 simp only [AY]at hl
 have hmul:i.toNat*r.sz+r.sz<=xs.length*r.sz:=by rw [<-Nat.succ_mul];exact yR _ hlt
 obtain⟨w',hr,e1,e2,e3,e4,e5,e6⟩:=jF ti hsz s h5 (off:=i.toNat*r.sz) (by omega)
 have hrun:(execOp a.eval ⟨none,.store U p x,ty,pos,after,g⟩).run E.P w= .ok .skip w' :=by
  simp [execOp,Y,H,Instr.storeAt,M,Instr.sureAddr,hr]
 obtain⟨g1,g2,g3⟩:=mN (O:=O) hsat (Z (mZ r n) T b xs) (Z (mZ r n) T b (xs.set i.toNat v)) hown (fun _=>rR) (fun _=>rR) ⟨e1,e2,e3,e4.1,e4.2⟩ e6 ⟨hno,_,e5,by rw [Br];exact h6.1,BJ s h6.2 hlt⟩ hno
 exact⟨w',S,jj,hrun,g1.more fun c hc=>⟨_,nQ ..,hc⟩,g2,g3⟩

section
def qy{x:α}(ti:TI E.P T sz bytes agg z)(X: ∀S,r.rc S z x):
  EffOK E O G ⟨some aL,.alloc T,ty,pos,after,g⟩ (fun i=>Z r T (i.h 0).2 x::O) (fun i=>K (M (i.h 0).2 0)):=fun a w S hs ho hf W=>by
 obtain⟨zv,hzr,hzc⟩:=ti.zero w
 obtain⟨he,hs',hno⟩:=ji (w:=w) (.cells z.toArray T (0,0)) hs
 have hrun:(execOp a.eval ⟨some aL,.alloc T,ty,pos,after,g⟩).run E.P w= .ok (.value (M w.heap.size 0)) (w.alloc (.cells z.toArray T (0,0))):=by
  simp [execOp,Instr.alloc,hzr,newVar,newRow,hzc,M]
 refine⟨fun c h=>(by cases h),?_⟩
 rw [hrun]
 exact⟨_,S,oi none w.heap.size,rfl,he.more fun _ W=>W.elim,hs',qL ho he (e:=Z r T w.heap.size x) ⟨hno,z.toArray,vN w _,by simpa using X S⟩ (fun b W=>yU W.symm) W,rfl⟩
end
section
def aA{x:Operand}(X:aI E.N G x (K (M b off))):cm E O G ⟨dst,.nilCheck x,ty,pos,after,g⟩ (K (M b off)):= .of_pure fun a w S _ _ hf=>by
 have Y:a.eval x=M b off:=X S a hf
 exact⟨M b off,by simp [execOp,Y,M],rfl⟩
def RK{y:α}{x:Operand}(X:aI E.N G x (c8 r y)):cm E O G ⟨dst,.nilCheck x,ty,pos,after,g⟩ (c8 r y):= .of_pure fun a w S _ _ hf=>by
 have h0:=X S a hf
 obtain⟨b,off,c,U,fr,Y,H,s⟩:=h0
 exact⟨_,by simp [execOp,Y],b,off,c,U,fr,rfl,H,s⟩
def fz{u:Value}(ti:TI E.P U 1 bytes false z)(hm:Z rV T b u∈O)(hp:aI E.N G p (K (M b 0))):
  cm E O G ⟨dst,.load U p,ty,pos,after,g⟩ (K u):=(aD (q:=rV) (get:=fun x=>x) ti rfl rfl bj hm hp).imp fun _ _ h=>(wQ.1 h).1
def ue(ti:TI E.P U 1 bytes false z)(hp:aI E.N G p (c8 (rT t) ())):cm E O G ⟨dst,.load U p,ty,pos,after,g⟩ t:=Ir ti hp
end
def DD(h:O=O')(k:RG E ops ah rest O' G):RG E ops ah rest O G:=by subst h;exact k
def hW{x:Operand}{u:Value}(h:aI N G x (K u))(ho:u.oneCell' =true):aI N G x (tD rV u):=fun S a hf=>wQ.2 ⟨h S a hf,ho⟩
def hTT{x:Operand}(Y: ∀S v,t.p S v->v.oneCell' =true)(h:aI N G x t):aI N G x (tD (rT t) ()):=fun S a hf=>Zm.2 ⟨Y _ _ (h S a hf),h S a hf⟩
def RJ{args:α->List Ty}{res:β->Ty}{f:α->Option β}: ∀S v,(kU P args res f).p S v->v.oneCell' =true:=fun _ _ ⟨_,_,e,_⟩=>by rw [e];rfl
end

variable{mm:Bool}{ys:List α}
def HH{l:Option Nat}{t' e' :TypeId}(D:P.underlying t' =some (.slice e'))(h:yJ mm r U l cap xs w S)(hs:dK xs lo (xs.length:Int)=some ys):
  ∃news,Src P r.sz t' (mX r.sz l cap lo.toNat ys.length) ys.length news w/\qa r S news ys:=by
 obtain⟨cells,Y,H,_⟩:=h
 obtain⟨lo',m,rfl,hm,s,h4,rfl⟩:=fj hs
 have hm' :m=xs.length:=by omega
 subst hm'
 rw [B1,Ad]
 cases l with
 |none=>
  have X:xs=[]:=tA Y.1
  subst X
  exact⟨[],by simpa [mX] using Src.ofNil w D 0,by simp [qa]⟩
 |some b=>
  obtain⟨cur,g1,g2,g3,g4,g5⟩:=Y
  have hlen:(xs.drop lo').length=xs.length-lo' :=by simp
  have hcl:=jT H
  have hsp:xs=xs.take lo' ++xs.drop lo' :=(rQ lo' xs).symm
  have htl:(xs.take lo').length=lo' :=by simp;omega
  have hr:qa r S (cells.drop (lo' *r.sz)) (xs.drop lo'):=by
   rw [hsp]at H
   have:=(pd H).2
   rwa [htl]at this
  have hmul:lo' *r.sz<=xs.length*r.sz:=yR _ s
  refine⟨cells.drop (lo' *r.sz),?_,hr⟩
  unfold mX
  refine Src.ofSlice w D _ _ _ _ (jT hr) (fun j u hu=>?_) (wX hr)
  by_cases hc:cap=lo'
  ·have:xs.drop lo' =[]:=FN (by omega)
   rw [this]at hr
   have hr' :cells.drop (lo' *r.sz)=[]:=hr
   rw [hr']at hu;simp at hu
  ·simp only [hc,kQ]
   rw [iN,vd g1]
   rw [uB,<-g5]at hu
   have hj:lo' *r.sz+j<xs.length*r.sz:=by
    have:=(q8.1 hu).1
    simp at this;omega
   rw [xp hj]at hu
   simpa using hu
variable{yt:TypeId}
section
variable{ty:TypeId}
def N9{l:Option Nat}{x:Operand}{t:TypeId}(D:E.P.underlying t=some (.slice e))(hm:ly mm r U l cap xs∈O)(hs:dK xs lo (xs.length:Int)=some ys)(X:aI E.N G x (K (mX r.sz l cap lo.toNat ys.length)))(hd:Nat.blt aL E.N.n=true)(k: ∀b,(b=true->ys=[])->RG E ops ah rest O ((aL,tD rB b)::G)):RG E ops ah (⟨some aL,.binOp .eql t x (.const (.slice none 0 0)) yt,ty,pos,after,none⟩::rest) O G:= .of rfl fun a w S st=>by
 have Y:a.eval x=mX r.sz l cap lo.toNat ys.length:=X S a st.facts
 obtain⟨⟨cells,hraw,_⟩,_⟩:=st.own.mem _ hm
 have hcn:a.eval (.const (.slice none 0 0))= .slice none 0 0:=rfl
 cases l with
 |none=>
  have hx0:xs=[]:=tA hraw.1
  have hy0:ys=[]:=by
   obtain⟨lo',m,_,_,_,_,rfl⟩:=fj hs
   subst hx0;simp
  have s:(Op.equal t (.slice none 0 0) (.slice none 0 0)).run E.P w= .ok true w:=y7 fun aL=>by
   simp [Op.equalIn,iQ D]
  have hrun:(execOp a.eval ⟨some aL,.binOp .eql t x (.const (.slice none 0 0)) yt,ty,pos,after,none⟩).run E.P w= .ok (.value (.bool true)) w:=by
   simp [execOp,Y,mX,hcn,eqGuard,binOp,s]
  refine⟨fun c h=>(by cases h),?_⟩
  rw [hrun]
  exact k true (fun _=>hy0) _ _ S (st.step (iP _ _ _) st.sat hd (iS.2 rfl))
 |some b=>
  obtain⟨ad,hv⟩: ∃ad,mX r.sz (some b) cap lo.toNat ys.length= .slice (some ad) ys.length (cap-lo.toNat):=⟨_,rfl⟩
  have s:(Op.equal t (.slice (some ad) ys.length (cap-lo.toNat)) (.slice none 0 0)).run E.P w= .ok false w:=y7 fun aL=>by
   simp [Op.equalIn,iQ D]
  have hrun:(execOp a.eval ⟨some aL,.binOp .eql t x (.const (.slice none 0 0)) yt,ty,pos,after,none⟩).run E.P w= .ok (.value (.bool false)) w:=by
   simp [execOp,Y,hv,hcn,eqGuard,binOp,s]
  refine⟨fun c h=>(by cases h),?_⟩
  rw [hrun]
  exact k false (fun e=>(by cases e)) _ _ S (st.step (iP _ _ _) st.sat hd (iS.2 rfl))
def Lj{t t' :TypeId}{l l2:Option Nat}{cap2:Nat}{zs us:List α}{x y:Operand}(ti:TI E.P T sz bytes agg z)(hsz:r.sz=sz)(hz:Nat.beq z.length sz=true)(h0:Nat.blt 0 sz=true)(h128:Nat.ble bytes 2048=true)(D:E.P.underlying t=some (.slice T))(ht' :t' =t)(hd:Nat.blt aL E.N.n=true)(X:aI E.N G x (K (au l cap n)))(hm:ly mm r U l2 cap2 us∈de r T l cap xs::O)(hs:dK us lo (us.length:Int)=some ys)(hy:aI E.N G y (K (mX r.sz l2 cap2 lo.toNat ys.length)))(happ:jh xs ys=some zs)(k: ∀l' cap',RG E ops ah rest (de r T l' cap' zs::O) ((aL,K (au l' cap' zs.length))::G))(hn:n=xs.length:=by rfl):
  RG E ops ah (⟨some aL,.call ⟨.builtin .append,#[x,y],#[t,t']⟩,ty,pos,after,none⟩::rest) (de r T l cap xs::O) G:=by
 subst ht'
 exact vh (u:=fun cap' l' =>K (au l' cap' zs.length)) ti hsz hz h0 h128 D hd X (fun a w S st=>by
  have Y:a.eval y=mX r.sz l2 cap2 lo.toNat ys.length:=hy S a st.facts
  rw [Y]
  exact HH D (st.own.mem _ hm).1 hs) happ (fun _ _ _ _ _=>rfl) k hn
end

section
variable{c:Code}{args:α->List Ty}{it:It α}{fp:Nat->Prop}
end

section
variable{ty:TypeId}
end


def p9(l:List (Option Nat×Nat)):OI:={h:=fun n=>l.getD n (none,0)}
def eC(P:Program){A hx ρ:Type}(args:A->List Ty)(Ob:hx->OI->List OE)(res:ρ->Ty)(f:hx->A->Option (ρ×hx)):Ty where
 p:=fun S v=> ∀x y R,f x y=some R-> ∃fid fst cap,v= .func (.func fid) fst cap/\ak P fid=true/\ ∀i w S' vs,SH.le S S' ->lJ w S' ->vG S' (args y) vs->d9 0 sJ w S' (Ob x i)->
  Calls P fid (fst++vs.toArray++cap) w fun en w' => ∃j v S'',en= .returned v/\(res R.1).p S'' v/\jK (Fj (Ob x i)) w S' w' S'' /\lJ w' S'' /\d9 0 sJ w' S'' (Ob R.2 j)/\ ∀k,Fj (Ob R.2 j) k->Fj (Ob x i) k\/w.heap.size<=k
 mono:=fun h k x y R hf=>by
  obtain⟨fid,fst,cap,e,hc,hs⟩:=k x y R hf
  exact⟨fid,fst,cap,e,hc,fun i w S' vs hle=>hs i w S' vs (SH.le_trans h hle)⟩
variable{Ob:hx->OI->List OE}
def EN:(eC P args Ob res (fun _ _=>none)).p S v:=fun _ _ _ h=>by cases h
variable{ats:Array TypeId}{fid:FuncId}{fn:Func}
section
section
variable{ty:TypeId}
def pO(hc:ak E.P fid=true)(hp:aI E.N G p (K (M b 0)))(hs: ∀x y R,f x y=some R-> ∀i,bf E.P fid (K (M b 0)::args y) (Ob x i) (fun _:OI=>res R.1) (fun j=>Ob R.2 j)):
  cm E O G ⟨dst,.makeFunc (.func fid) #[p] #[],ty,pos,after,g⟩ (eC E.P args Ob res f):= .of_pure fun a w S _ _ hf=>by
 have Y:a.eval p=M b 0:=hp S a hf
 refine⟨.func (.func fid) #[M b 0] #[],by simp [execOp,Instr.makeFunc,Y],fun x y R hR=>⟨fid,#[M b 0],#[],rfl,hc,fun i w' S' vs _ hsat hv ho=>?_⟩⟩
 have:=hs x y R hR i w' S' (M b 0::vs) hsat ⟨rfl,hv⟩ ho
 rw [show(#[M b 0]++vs.toArray++ #[]:Array Value)=(M b 0::vs).toArray from by simp]
 exact this
def nD(hc:ak E.P fid=true)(hs: ∀x y R,f x y=some R-> ∀i,bf E.P fid (args y) (Ob x i) (fun _:OI=>res R.1) (fun j=>Ob R.2 j)):
  aI E.N G (.func fid) (eC E.P args Ob res f):=fun S a _ x y R hR=>
 ⟨fid,#[],#[],rfl,hc,fun i w' S' vs _ hsat hv ho=>by
  rw [show(#[]++vs.toArray++ #[]:Array Value)=vs.toArray from by simp]
  exact hs x y R hR i w' S' vs hsat hv ho⟩
end
def zJ{x:hx}{y:A}{R:ρ×hx}{i:OI}{ty:TypeId}{fo:Operand}{xs:List Operand}(Or:List OE)(hO:O=Ob x i++Or)(hf:aI E.N G fo (eC E.P args Ob res f))(hR:f x y=some R)(X:j4 E.N G xs (args y))(hpost: ∀j,Ob R.2 j++Or=post j):
  EffOK E O G ⟨some aL,.call ⟨.value fo,xs.toArray,ats⟩,ty,pos,after,g⟩ post (fun _=>res R.1):=fun a w S hsat ho hF W=>by
 subst hO
 obtain rfl:(fun j=>Ob R.2 j++Or)=post:=funext hpost
 obtain⟨fid,fst,cap,e,hc,hs⟩:=hf S a hF x y R hR
 have hr:(execOp a.eval ⟨some aL,.call ⟨.value fo,xs.toArray,ats⟩,ty,pos,after,g⟩).run E.P w= .ok (.enter fid (fst++(xs.map a.eval).toArray++cap)) w:=by
  simp [execOp,resolve,e,Deferred.ofValue,invoke,hZ hc]
 refine⟨fun c h=>(by cases h),?_⟩
 rw [hr]
 exact(hs i w S _ (SH.le_refl _) hsat (X.tys hF) (pr ho).1.weak).mono fun en w' ⟨j,v,S',he,hv,Y,H,s,h4⟩=>⟨_,he,v,S',j,rfl,Y.more fun b ⟨f,hf,W⟩=>⟨f,Cc _ hf,W⟩,H,d9.turn ho W Y s h4,hv⟩
section
variable{N:Nat}{w0:World}{S0:SH}{O1:List OE}{ι:Type}{t:ι->Ty}{O2:ι->List OE}
def pZ{rvs:List ResultVar}(hr:fn.results=rvs.toArray)(Y:Nat.beq rvs.length 1=false)(h:N8 P ⟨N,[]⟩ G rvs ts)(i:ι)(hO:O=O2 i)(D:t i=tT ts):
  AT ⟨P,⟨N,[]⟩,Fj O1,w0,S0,none⟩ (bodyPost P fn (K0 ⟨P,⟨N,[]⟩,Fj O1,w0,S0,none⟩ O1 t O2)) .ret O G:=fun a w S st=>by
 obtain⟨vs,k1,k2,k3⟩:=h.run st.sat st.facts
 have hne: ¬vs.length=1:=by rw [k3];intro e;rw [e]at Y;cases Y
 refine⟨st.facts.defers,.tuple vs.toArray,?_,zI st rfl i hO (by rw [D];exact⟨vs,rfl,k2⟩)⟩
 have e1:(fn.results.mapM (yg a.tmps)).run P w= .ok vs.toArray w:=by
  rw [hr,List.mapM_toArray,Sem.run_map,k1]
  rfl
 have e3:results fn a.tmps=((fn.results.mapM (yg a.tmps))>>=fun vs=>pure (if h:vs.size=1 then vs[0]else .tuple vs)):=rfl
 rw [e3,sH,e1]
 simp [Result.andThen,hne]
def dp{k:Nat}{x:α}(hr:fn.results= #[.cell k T])(ti:TI P T sz bytes agg z)(hsz:r.sz=sz)(hag:r.agg=agg)(hk:cn G k=some (c8 r x))(i:ι)(hO:O=O2 i)(D:t i=tD r x):
  AT ⟨P,⟨N,[]⟩,Fj O1,w0,S0,none⟩ (bodyPost P fn (K0 ⟨P,⟨N,[]⟩,Fj O1,w0,S0,none⟩ O1 t O2)) .ret O G:=fun a w S st=>by
 obtain⟨b,off,c,U,fr,Y,H,s⟩:=st.facts.at_ k _ hk
 obtain⟨c',h4,h5⟩:=st.sat.part H (r.len s)
 rw [<-h5]at s
 refine⟨st.facts.defers,r.val ((c'.toList.drop off).take r.sz),?_,zI st rfl i hO (by rw [D];exact⟨_,rfl,s⟩)⟩
 have hl:=kh ti h4 hsz hag s
 have h1' :a.tmps[k]?.getD undef=Value.pointer (some ⟨b,off,none⟩):=by simpa [FP] using Y
 simp [results,hr,h1',asAddr,hl]
end
end
variable{et kt:TypeId}{kv:κ->Value}{os:List (Option Nat×Nat)}
section
variable [DecidableEq κ]{k:κ}{t:TypeId}{x i v:Operand}{dst:Option Nat}{ty:TypeId}
def jE{γ:β->Ty}{y:β}(hm:E.P.underlying t=some (.map kt et))(hk:Jl E.P kt kv)(X:aI E.N G x (K (tM b)))(hi:MO E.N G i (kv k))(hv:aI E.N G v (γ y))
  (h: ∀os',RG E ops ah rest (zj (L6 γ) kv b none os' (fV m k y)::O) G):
  RG E ops ah (⟨none,.insert t x i v,ty,pos,after,none⟩::rest) (zj (L6 γ) kv b none os m::O) G:= .of rfl fun a w S st=>by
 have Y:a.eval x=tM b:=X S a st.facts
 have H:a.eval i=kv k:=hi S a st.facts
 have s:(γ y).p S (a.eval v):=hv S a st.facts
 obtain⟨⟨hp,hfp⟩,hap,hO⟩:=st.own
 obtain⟨hno,hnb,es,clock,e3,e4,hst⟩:=hp
 obtain⟨q,hq,hdk,hinj⟩:=hk
 obtain⟨os1,p1,p2,_⟩:=u9 hdk hinj (k:=k) 0 e4
 have hnb1: ∀o∈os1,o.1≠some b:=fun o ho=>by
  rcases p1 o ho with h|h
  ·exact hnb o h
  ·rw [h];exact fun e=>by cases e
 obtain⟨w',os',r,x1,x2,x3,x4⟩:=NJ (hg:=L6 γ) (E:=E) (y:=y) (o:=(none,0)) (val:=a.eval v) st.sat hm ⟨q,hq,hdk,hinj⟩ ⟨hno,hnb1,es,clock,e3,p2,hst⟩ ⟨rfl,s⟩ (fun e=>by cases e) (fun _ _ _ e=>by cases e)
 have hrun:(execOp a.eval ⟨none,.insert t x i v,ty,pos,after,none⟩).run E.P w= .ok .skip w' :=by simp [execOp,Y,H,r]
 refine⟨fun c h=>(by cases h),?_⟩
 rw [hrun]
 have hfp' : ∀j,(zj (L6 γ) kv b none os' (fV m k y)).fp j->(zj (L6 γ) kv b none os m).fp j:=fun j hj=>by
  rcases x4 j hj with(h|⟨o,ho,e⟩)|e
  ·exact .inl h
  ·rcases p1 o ho with h|h
   ·exact .inr ⟨o,h,e⟩
   ·rw [h]at e;cases e
  ·cases e
 exact h os' _ _ S ⟨st.ext.step x1 (fun c hc=>hfp c (.inl hc)),x2,⟨⟨x3,fun j hj=>hfp j (hfp' j hj)⟩,fun f hf j hj=>hap f hf j (hfp' j hj),hO.ext x1 fun f hf j hj hjb=>hap f hf j (.inl hjb) hj⟩,st.facts⟩
end

def Fq{κ β:Type}(γ:β->Ty)(kv:κ->Value)(S:SH):List MapEntry->List (κ×β)->Prop
 |[],[]=>True
 |e::es,q::m=>e.key=kv q.1/\(γ q.2).p S e.val/\(∀p∈m,p.1≠q.1)/\Fq γ kv S es m
 |_,_=>False
def yH{κ β:Type}{γ:β->Ty}{kv:κ->Value}{S S' :SH}(h:SH.le S S'): ∀{es:List MapEntry} {m:List (κ×β)},Fq γ kv S es m->Fq γ kv S' es m
 |[],[],_=>trivial
 |_::_,q::_,⟨Y,H,s,h4⟩=>⟨Y,(γ q.2).mono h H,s,yH h h4⟩
def Qy{κ β:Type} [DecidableEq κ]{γ:β->Ty}{kv:κ->Value}{w:World}{S:SH}: ∀{es:List MapEntry} {os:List (Option Nat×Nat)} {m:List (κ×β)},vD (L6 γ) kv w S none es os m->Fq γ kv S es m
 |[],[],[],_=>trivial
 |_::_,_::_,_::_,⟨Y,H,_,h4,h5⟩=>⟨Y,by rw [aV (by simp)]at H;exact H.2,h4,Qy h5⟩
def QY{κ β:Type} [DecidableEq κ]{γ:β->Ty}{kv:κ->Value}{w:World}{S:SH}: ∀{es:List MapEntry} {m:List (κ×β)},Fq γ kv S es m->vD (L6 γ) kv w S none es (m.map fun _=>(none,0)) m
 |[],[],_=>trivial
 |_::_,_::_,⟨Y,H,s,h4⟩=>⟨Y,by rw [aV (by simp)];exact⟨rfl,H⟩,fun _ _ _ h=>(by cases h),s,QY h4⟩
def Wn{κ β:Type}(γ:β->Ty)(kv:κ->Value)(m:List (κ×β)):Ty where
 p:=fun S v=> ∃b es clock,v=tM b/\S b=some (.map es clock)/\Fq γ kv S es.toList m
 mono:=fun h ⟨b,es,cl,e,Y,H⟩=>by
  obtain⟨o',s,h4⟩:=h b _ Y
  have h5:o' = .map es cl:=h4
  subst h5
  exact⟨b,es,cl,e,s,yH h H⟩
section
variable{c:Code} [DecidableEq κ]{k:κ}{t:TypeId}{x i:Operand}{γ:β->Ty}{dst:Option Nat}{ty:TypeId}
def Iq{z:β}{zv:Value}(hm:E.P.underlying t=some (.map kt et))(hk:Jl E.P kt kv)(hz:ZV E.P et zv)(hzt: ∀S,(γ z).p S zv)(X:aI E.N G x (Wn γ kv m))(hi:MO E.N G i (kv k)):
  cm E O G ⟨dst,.lookup t x i false,ty,pos,after,g⟩ (γ ((tL m k).getD z)):= .of_pure fun a w S hs ho hf=>by
 obtain⟨b,es,clock,Y,s,h4⟩:=X S a hf
 obtain⟨o',h5,h6⟩:=hs b _ s
 have h7:o' = .map es clock:=h6
 subst h7
 obtain⟨q,hq,hd,hinj⟩:=hk
 have H:a.eval i=kv k:=hi S a hf
 obtain⟨_,_,_,h8⟩:=u9 hd hinj (k:=k) 0 (QY (w:=w) h4)
 rcases h8 with⟨g1,g2⟩|⟨y,o,e,j,g1,g2,g3,g4,g5⟩
 ·refine⟨zv,by simp [execOp,Y,H,qE hm hq (hd k) h5 hz g2],by rw [g1];exact hzt S⟩
 ·refine⟨e.val,by simp [execOp,Y,H,qE hm hq (hd k) h5 hz g4],by rw [g1];exact g3.2⟩
def St.settleMp{j:Nat}(h:St E (zj (L6 γ) kv b none os m::O) G a w S)(hk:cn G j=some (K (tM b))): ∃S',St E O ((j,Wn γ kv m)::G) a w S' :=by
 obtain⟨⟨hn,_,es,clock,s,h4,_⟩,_⟩:=h.own.1
 obtain⟨h8,hle,_,_⟩:=yf h (.inl rfl) s (sj _) hn
 have hv:a.tmps.getD j undef=tM b:=h.facts.at_ j _ hk
 exact⟨_,h8.cons ⟨b,es,clock,hv,by simp [SH.set],yH hle (Qy h4)⟩⟩
def Jq{e:Exit}(j:Nat)(hk:cn G j=some (K (tM b)))(h:AT E ah e O ((j,Wn γ kv m)::G)):AT E ah e (zj (L6 γ) kv b none os m::O) G:=
 fun a w _ st=>let⟨S',st'⟩:=st.settleMp hk;h a w S' st'
end

section
variable{ty:TypeId}
end
open Go.MapKept (Stamped)
section
variable [DecidableEq κ]
end
section
variable{c:Code} [DecidableEq κ]{r:Nat}{left:List κ}{cur:Option κ}{k:κ}{t:TypeId}{x i v:Operand}{dst:Option Nat}{ty:TypeId}
end
open Go.RowKit

def lu(xs:List Int):QQ:=xs.map fun n=>UInt8.ofNat n.toNat
def C5: ∀(xs:List Int) (r:ByteArray),xs.foldl (fun r n=>r.push (UInt8.ofNat n.toNat)) r=⟨r.data++(lu xs).toArray⟩
 |[],r=>by simp [lu]
 |x::xs,r=>by
  rw [List.foldl_cons,C5 xs]
  simp [lu,ByteArray.push]
def zb{k:IntKind}{S:SH}: ∀{xs:List Int} {cs:List Value},qa (rI k) S cs xs->cs=xs.map (Value.int k)
 |[],cs,h=>by rw [show cs=[]from h];rfl
 |x::xs,cs,⟨a,b,e,Y,H⟩=>by
  rw [e,show a=[.int k x]from Y,zb H]
  rfl
section
variable{c:Code}{ty:TypeId}
def As{xs:List Int}{x:Operand}{dt:TypeId}(hs:E.P.underlying st=some (.slice e))(he:E.P.underlying e=some (.int .u8))(hd:E.P.underlying dt=some .string)(ti:TI E.P e sz bytes agg z)(hsz:Nat.beq sz 1=true)(X:aI E.N G x (tD (gE (rI .u8)) xs)):cm E O G ⟨dst,.convert st dt x,ty,pos,after,g⟩ (tD rS (lu xs)):= .of_pure fun a w S hsat _ hf=>by
 obtain⟨ad,cap,hv,hle,hmax,hsl⟩:=jw.1 (X S a hf)
 refine⟨.string ⟨(lu xs).toArray⟩,?_,Ah.2 rfl⟩
 have key: ∀(ad:Option Addr),ES (rI .u8) S ad xs->(ad=none->xs=[])->(Conv.bytesToString (.slice ad xs.length cap)).run E.P w= .ok (.string ⟨(lu xs).toArray⟩) w:=fun ad h h0=>by
  cases ad with
  |none=>rw [h0 rfl];rfl
  |some p=>
   have hl:(loadCells p xs.length).run E.P w= .ok (xs.map (Value.int .u8)).toArray w:=by
    rcases h with h|⟨b,off,cc,T,fr,Y,H,s⟩
    ·rw [h];rfl
    ·cases Y
     obtain⟨c',h4,h5⟩:=hsat.part H (jT s)
     have h6:xs.length*(rI .u8).sz=xs.length:=by show xs.length*1=_;omega
     rw [h6]at s h5
     have h7:=zb s
     exact t7 h4 (h5.trans h7) (by simp)
   rw [run_bytesToString w p xs.length cap xs hl,C5]
   simp [ByteArray.empty,ByteArray.emptyWithCapacity]
   rfl
 simp [execOp,hv,run_convert_bytes_string w st dt e _ _ _ hs he hd,key ad hsl (fun h=>by
  rcases hsl with Y|⟨b,off,cc,T,fr,Y,_⟩
  ·exact Y
  ·rw [h]at Y;cases Y)]
end

abbrev NG:=Nat->(Option Nat×Nat)×(Nat->Option Nat×Nat)
inductive NPl where
 |o
 |i (k:Nat)
 |l (k j:Nat)
section
def hd2(q:Nat->Option Nat×Nat)(zs:List (List α)):List Value:=zs.mapIdx fun j z=>au (q j).1 (q j).2 z.length
def hd1(prj:β->List (List α))(g:NG)(x:List β):List Value:=x.mapIdx fun k y=>au (g k).1.1 (g k).1.2 (prj y).length
def nsB(prj:β->List (List α))(l:Option Nat)(g:NG)(x:List β)(h:Option (Nat×Nat)):NPl->Option Nat
 | .o=>l
 | .i k=>(x[k]?).bind fun _=>(g k).1.1
 | .l k j=>if h=some (k,j)then none else((x[k]?).bind fun y=>(prj y)[j]?).bind fun _=>((g k).2 j).1
structure nstP(prj:β->List (List α))(r:Rp α)(T1 T2 T3:TypeId)(l:Option Nat)(cap n:Nat)(g:NG)(x:List β)(h:Option (Nat×Nat))(w:World)(S:SH):Prop where
 len:x.length=n
 out:yJ false rV T1 l cap (hd1 prj g x) w S
 inn: ∀k y,x[k]? =some y->yJ false rV T2 (g k).1.1 (g k).1.2 (hd2 (g k).2 (prj y)) w S
 lvs: ∀k y j z,x[k]? =some y->(prj y)[j]? =some z->h≠some (k,j)->yJ true r T3 ((g k).2 j).1 ((g k).2 j).2 z w S
 inj: ∀h3 t b,nsB prj l g x h h3=some b->nsB prj l g x h t=some b->h3=t
variable{prj:β->List (List α)}{T1 T2 T3:TypeId}{l:Option Nat}{g:NG}{x:List β}{h:Option (Nat×Nat)}
end
section
variable{prj:β->List (List α)}{T1 T2 T3:TypeId}{l:Option Nat}{g:NG}{x:List β}{h:Option (Nat×Nat)}
variable{c:Code}{ty:TypeId}{gd:Option (Nat×Bool)}
open Classical in
noncomputable def YZ(w:World)(S:SH)(P:Nat->Prop):SH:=fun b=>if P b then w.heap[b]? else S b
def g0(hs:List (Option Nat×Nat)):NG:=fun k=>(hs.getD k (none,0),fun _=>(none,0))
def tsB(l:Option Nat)(q:Nat->Option Nat×Nat)(zs:List (List α))(h:Option Nat):Option Nat->Option Nat
 |none=>l
 |some j=>if h=some j then none else(zs[j]?).bind fun _=>(q j).1
structure rowP(r:Rp α)(T2 T3:TypeId)(l:Option Nat)(cap n:Nat)(q:Nat->Option Nat×Nat)(zs:List (List α))(h:Option Nat)(w:World)(S:SH):Prop where
 len:zs.length=n
 inn:yJ false rV T2 l cap (hd2 q zs) w S
 lvs: ∀j z,zs[j]? =some z->h≠some j->yJ true r T3 (q j).1 (q j).2 z w S
 inj: ∀h3 t b,tsB l q zs h h3=some b->tsB l q zs h t=some b->h3=t
variable{q:Nat->Option Nat×Nat}{zs:List (List α)}{k:Option Nat}
end

def Es(es:List Bool)(done:Array Bool):List Nat:=(List.range es.length).filter fun k=>(es[k]?).getD false&&done.getD k false
def RX(es:List Bool)(i:Nat)(h3:List Nat):List Nat:=(List.range es.length).filter fun k=>Nat.beq k i||h3.contains k
def VM:List Nat->List Nat->Bool
 |[],[]=>true
 |a::h3,b::t=>Nat.beq a b&&VM h3 t
 |_,_=>false
def KZ: ∀{h3 t:List Nat},VM h3 t=true->h3=t
 |[],[],_=>rfl
 |a::h3,b::t,h=>by
  simp only [VM,nP]at h
  rw [oq h.1,KZ h.2]
 |[],_::_,h=>by cases h
 |_::_,[],h=>by cases h
def Ox:List (List Nat×((Nat->OI)->List OE))->List Nat->(Nat->OI)->List OE
 |[],_,_=>[]
 |p::r,h3,σ=>bif VM p.1 h3 then p.2 σ else Ox r h3 σ
def zi{k:Nat}:k∈Es es done↔es[k]? =some true/\done.getD k false=true:=by
 unfold Es
 rw [List.mem_filter,List.mem_range,nP]
 constructor
 ·rintro⟨Y,H,s⟩
  refine⟨?_,s⟩
  rw [sG Y]at H ⊢
  simpa using H
 ·rintro⟨Y,H⟩
  exact⟨(q8.1 Y).1,by rw [Y];rfl,H⟩
def N4{i:Nat}(h:es[i]? =some false):Es es (done.setIfInBounds i true)=Es es done:=by
 unfold Es
 refine List.filter_congr fun k hk=>?_
 by_cases hik:i=k
 ·subst hik;rw [h];rfl
 ·rw [vm false hik]
def SV{i:Nat}(h:es[i]? =some true)(hs:i<done.size):Es es (done.setIfInBounds i true)=RX es i (Es es done):=by
 unfold RX
 conv=>lhs;unfold Es
 refine List.filter_congr fun k hk=>?_
 by_cases hik:i=k
 ·subst hik;simp [h,hs]
 ·rw [vm false hik]
  have W:Nat.beq k i=false:=by
   cases W:Nat.beq k i with
   |false=>rfl
   |true=>exact absurd (oq W).symm hik
  rw [W,tu,vI,Hk,zi,nP]
  constructor
  ·rintro⟨Y,H⟩
   refine⟨?_,H⟩
   cases he:es[k]? with
   |none=>rw [he]at Y;cases Y
   |some b=>rw [he]at Y;simpa using Y
  ·rintro⟨Y,H⟩
   exact⟨by rw [Y];rfl,H⟩
def EP:List Nat->List (List Nat)
 |[]=>[[]]
 |k::l=>(EP l).map (k:: ·)++EP l
def BC(es:List Bool):List Nat:=(List.range es.length).filter fun k=>(es[k]?).getD false
def wy(p:Nat->Bool): ∀l:List Nat,l.filter p∈EP l
 |[]=>DY.2 rfl
 |k::l=>by
  unfold EP
  rw [xV]
  by_cases h:p k=true
  ·rw [List.filter_cons_of_pos h]
   exact .inl (B5.2 ⟨_,wy p l,rfl⟩)
  ·rw [List.filter_cons_of_neg h]
   exact .inr (wy p l)
def QD(es:List Bool)(done:Array Bool):Es es done∈EP (BC es):=by
 have:Es es done=(BC es).filter fun k=>done.getD k false:=by
  unfold Es BC
  rw [List.filter_filter]
  refine List.filter_congr fun k _=>Bool.and_comm ..
 rw [this]
 exact wy _ _
def Zr(L:List Oper)(es:List Bool)(i:Nat)(h3:List Nat):Bool:=
 h3.contains i||(BC es).any fun k=>if h3.contains k then m5 L L.length k i||(BC es).any fun j=> !h3.contains j&&m5 L L.length k j else m5 L L.length i k
def MW(L:List Oper)(es:List Bool)(i:Nat)(aas:List (List Nat)):Bool:=(EP (BC es)).all fun h3=>Zr L es i h3||aas.any fun a=>VM a h3
def Jp{α:Type}(p:α->Prop):List α->Prop
 |[]=>True
 |a::l=>p a/\Jp p l
def Jp.mem{p:α->Prop}: ∀{l:List α},Jp p l-> ∀a∈l,p a
 |_::_,⟨h,_⟩,_,.head _=>h
 |_::_,⟨_,h⟩,_,.tail _ hm=>Jp.mem h _ hm
abbrev V5:=List (List Nat×((Nat->OI)->List OE))
def DT(E:En)(G:lv)(L:List Oper)(ts:List TS)(Ss:V5)(es0:List Bool):Nat->List Oper->List Bool->Prop
 |_,[],_=>True
 |i,o::rest,false::es=>(∃(needs:List NS) (t:TS) (aas:List (List Nat)),ts[i]? =some t/\vu G ts needs/\(needs.all fun n=>ot L o i (n.at fun _=>jj))=true/\ef i o=true/\N5 L es0 i t=true/\MW L es0 i aas=true/\o.dst.isSome=true/\
   Jp (fun h3=> ∀σ,cj E (Ox Ss h3 σ) L.toArray (vq needs σ) o (t.at σ)) aas)/\DT E G L ts Ss es0 (i+1) rest es
 |i,o::rest,true::es=>(∃(needs:List NS) (t:TS) (aas:List (List Nat×List Nat)),ts[i]? =some t/\vu G ts needs/\(needs.all fun n=>ot L o i (n.at fun _=>jj))=true/\ef i o=true/\N5 L es0 i t=true/\MW L es0 i (aas.map (·.1))=true/\(aas.all fun p=>VM (RX es0 i p.1) p.2)=true/\
   Jp (fun p:List Nat×List Nat=> ∀σ,kc E L.toArray (Ox Ss p.1 σ) (vq needs σ) o (fun x=>Ox Ss p.2 (JI σ i x)) (fun x=>t.at (JI σ i x))) aas)/\DT E G L ts Ss es0 (i+1) rest es
 |_,_::_,[]=>False
def DT.get{ts:List TS}{Ss:V5}{es0:List Bool}: ∀(r:List Oper) (es:List Bool) (k:Nat),DT E G L ts Ss es0 k r es-> ∀(j:Nat) (o:Oper),r[j]? =some o->
    ∃e,es[j]? =some e/\ ∃(needs:List NS) (t:TS),ts[k+j]? =some t/\vu G ts needs/\(needs.all fun n=>ot L o (k+j) (n.at fun _=>jj))=true/\ef (k+j) o=true/\N5 L es0 (k+j) t=true/\
      (match e with
       |false=>o.dst.isSome=true/\ ∃aas,MW L es0 (k+j) aas=true/\Jp (fun h3=> ∀σ,cj E (Ox Ss h3 σ) L.toArray (vq needs σ) o (t.at σ)) aas
       |true=> ∃aas:List (List Nat×List Nat),MW L es0 (k+j) (aas.map (·.1))=true/\(aas.all fun p=>VM (RX es0 (k+j) p.1) p.2)=true/\Jp (fun p:List Nat×List Nat=> ∀σ,kc E L.toArray (Ox Ss p.1 σ) (vq needs σ) o (fun x=>Ox Ss p.2 (JI σ (k+j) x)) (fun x=>t.at (JI σ (k+j) x))) aas):=by
  intro r
  induction r with
  |nil=>intro es k _ j o h;simp at h
  |cons p r ih=>
    intro es k h j o ho
    cases es with
    |nil=>exact h.elim
    |cons e es=>
      cases e with
      |false=>
        obtain⟨⟨needs,t,aas,g1,g2,g3,g4,g5,g6,g7,g8⟩,H⟩:=h
        cases j with
        |zero=>
          simp at ho;subst ho
          exact⟨false,rfl,needs,t,g1,g2,g3,g4,g5,g7,aas,g6,g8⟩
        |succ j=>
          obtain⟨e',g1,g2⟩:=ih es (k+1) H j o (by simpa using ho)
          refine⟨e',by simpa using g1,?_⟩
          rw [show k+1+j=k+(j+1)from by omega]at g2
          exact g2
      |true=>
        obtain⟨⟨needs,t,aas,g1,g2,g3,g4,g5,g6,g7,g8⟩,H⟩:=h
        cases j with
        |zero=>
          simp at ho;subst ho
          exact⟨true,rfl,needs,t,g1,g2,g3,g4,g5,aas,g6,g7,g8⟩
        |succ j=>
          obtain⟨e',g1,g2⟩:=ih es (k+1) H j o (by simpa using ho)
          refine⟨e',by simpa using g1,?_⟩
          rw [show k+1+j=k+(j+1)from by omega]at g2
          exact g2
structure TX(E:En)(G:lv)(l:List Oper)(ts:List TS)(Ss:V5)(es:List Bool)(done:Array Bool)(a:Act)(w:World)(S:SH)(σ:Nat->OI):Prop where
 ext:jK E.B E.w0 E.S0 w S
 sat:lJ w S
 own:d9 E.base E.B w S (Ox Ss (Es es done) σ)
 size:a.tmps.size=E.N.n
 defers:a.defers=E.N.ds
 dsz:done.size=l.length
 down: ∀j o,l[j]? =some o->done.getD j false=true-> ∀e∈o.after,Region.binds .any e=true->done.getD e.on false=true
 old: ∀k t,cn G k=some t->(∀j o,l[j]? =some o->done.getD j false=true->o.dst≠some k)->t.p S (a.tmps.getD k undef)
 new: ∀j o aL p,l[j]? =some o->done.getD j false=true->o.dst=some aL->ts[j]? =some p->(p.at σ).p S (a.tmps.getD aL undef)
 deps: ∀j p,done.getD j false=true->ts[j]? =some p-> ∀k∈p.1,done.getD k false=true
section
variable{ts:List TS}{Ss:V5}
def TX.need(h:TX E G L ts Ss es done a w S σ){i:Nat}(hi:L[i]? =some o)(hun:done.getD i true=false)(hwait: ∀e∈o.after,Region.binds .any e=true->done.getD e.on false=true){needs:List NS}(Y:vu G ts needs)(H:(needs.all fun n=>ot L o i (n.at fun _=>jj))=true):bO E.N S a (vq needs σ):=by
 have hlt:i<done.size:=by rw [h.dsz];exact(q8.1 hi).1
 have hun' :done.getD i false=false:=by
  simp [hlt]at hun ⊢;exact hun
 refine⟨h.size,h.defers,?_⟩
 have key: ∀n∈needs,(n.ty σ).p S (a.tmps.getD n.slot undef):=by
  intro n hn
  have hs:=lw.1 H n hn
  have ho:=Y.mem n hn
  unfold ot NS.at at hs
  unfold Ta at ho
  cases hsrc:n.src with
  |some j=>
   rw [hsrc]at hs ho
   simp only [nP]at hs
   obtain⟨hs1,hs2⟩:=hs
   cases hj:L[j]? with
   |none=>rw [hj]at hs1;cases hs1
   |some p=>
    rw [hj]at hs1
    cases hd:p.dst with
    |none=>simp only [hd]at hs1;cases hs1
    |some aL=>
     simp only [hd]at hs1
     have hd' :=oq hs1
     subst hd'
     have hdone:done.getD j false=true:=by
      unfold A3 at hs2
      obtain⟨e,he0,W⟩:=B2.1 hs2
      have he:e∈o.after:=by simpa using he0
      simp only [nP]at W
      have:=hwait e he W.2
      rwa [oq W.1]at this
     have hm:=ho σ
     cases hf:ts[j]? with
     |none=>rw [hf]at hm;simp at hm
     |some f=>
      rw [hf]at hm
      have e:f.at σ=n.ty σ:=by simpa using hm
      rw [<-e]
      exact h.new j p n.slot f hj hdone hd hf
  |none=>
   rw [hsrc]at hs ho
   refine h.old _ _ (ho σ) fun j p hj hdone hd=>?_
   have:=lw.1 hs p (sI hj)
   simp only [hd,Nat.beq_refl,rk,tu]at this
   unfold A3 at this
   obtain⟨e,he0,W⟩:=B2.1 this
   have he:e∈p.after:=by simpa using he0
   simp only [nP]at W
   have s:=h.down j p hj hdone e he W.2
   rw [oq W.1]at s
   rw [s]at hun'
   cases hun'
 clear Y H
 intro k t hk
 unfold vq at hk
 induction needs with
 |nil=>simp [je,cn]at hk
 |cons n needs ih=>
  simp only [B6]at hk
  unfold je cn at hk
  by_cases W:Nat.beq n.slot k=true
  ·have hb' :Nat.beq (n.at σ).slot k=true:=W
   rw [hb']at hk
   have:=oq W
   subst this
   have h9:some (n.at σ).ty=some t:=by simpa using hk
   have e:n.ty σ=t:=px h9
   rw [<-e]
   exact key n (nQ ..)
  ·rw [Ab]at W
   have hb' :Nat.beq (n.at σ).slot k=false:=W
   rw [hb']at hk
   exact ih (fun m hm=>key m (o4 _ hm)) hk
def TX.step{σ' :Nat->OI}(h:TX E G L ts Ss es done a w S σ){i:Nat}{p0:TS}{C:Nat->Prop}(hi:L[i]? =some o)(hdN: ∀aL,o.dst=some aL->aL<E.N.n)(hs2: ∀aL,o.dst=some aL-> ∀j p,L[j]? =some p->done.getD j false=true->p.dst=some aL->i=j)(hwait: ∀e∈o.after,Region.binds .any e=true->done.getD e.on false=true)(D:ts[i]? =some p0)(hun:done.getD i true=false)(hdep: ∀k∈p0.1,k=i\/done.getD k false=true)(hext:jK C w S w' S')(hC: ∀b,C b->E.base<=b\/E.B b)(hsat:lJ w' S')(hown:d9 E.base E.B w' S' (Ox Ss (Es es (done.setIfInBounds i true)) σ'))(hσ: ∀k,k≠i->σ' k=σ k)(hv:(p0.at σ').p S' v):
  TX E G L ts Ss es (done.setIfInBounds i true) (a.put o.dst v) w' S' σ' :=by
 have hlt:i<done.size:=by rw [h.dsz];exact(q8.1 hi).1
 have hset: ∀j,(done.setIfInBounds i true).getD j false=true->j=i\/done.getD j false=true:=fun j hj=>by
  by_cases hij:i=j
  ·exact .inl hij.symm
  ·rw [vm false hij]at hj;exact .inr hj
 have hseti:(done.setIfInBounds i true).getD i false=true:=by simp [hlt]
 have hun' :done.getD i false=false:=by simp [hlt]at hun ⊢;exact hun
 have hput: ∀k,(∀aL,o.dst=some aL->aL≠k)->(a.put o.dst v).tmps.getD k undef=a.tmps.getD k undef:=fun k hk=>by
  cases hd:o.dst with
  |none=>rfl
  |some aL=>
   have hda:aL<a.tmps.size:=by rw [h.size];exact hdN aL hd
   rw [sW hda,aV (hk aL hd)]
 refine⟨h.ext.step hext hC,hsat,hown,?_,?_,by simp [h.dsz],fun j p hj hdone e he W=>?_,fun k u hk hno=>?_,fun j p d' u hj hdone hd' hu=>?_,fun j u hj hu k hk=>?_⟩
 ·cases o.dst with
  |none=>exact h.size
  |some aL=>simp [Act.put,h.size]
 ·cases o.dst with
  |none=>exact h.defers
  |some aL=>exact h.defers
 ·rcases hset j hdone with rfl|hj'
  ·rw [hi]at hj
   have:o=p:=by simpa using hj
   subst this
   exact xn (hwait e he W)
  ·exact xn (h.down j p hj hj' e he W)
 ·rw [hput k fun aL hd e=>hno i o hi hseti (by rw [hd,e])]
  exact u.mono hext.keep (h.old k u hk fun j p hj hdone=>hno j p hj (xn hdone))
 ·by_cases hij:j=i
  ·subst hij
   rw [hi]at hj
   have:o=p:=by simpa using hj
   subst this
   have hda:d' <a.tmps.size:=by rw [h.size];exact hdN d' hd'
   rw [hd',sW hda,bo rfl]
   rw [D]at hu
   have:p0=u:=by simpa using hu
   subst this
   exact hv
  ·have hj' :=(hset j hdone).resolve_left hij
   rw [hput d' fun aL hd e=>by subst e;exact hij (hs2 aL hd j p hj hj' hd').symm]
   have e1:u.at σ' =u.at σ:=congrArg u.2 (Hj fun k hk=>hσ k fun e=>by
     subst e
     rw [h.deps j u hj' hu k hk]at hun';cases hun')
   rw [e1]
   exact Ty.mono _ hext.keep (h.new j p d' u hj hj' hd' hu)
 ·rcases hset j hj with rfl|hj'
  ·rw [D]at hu
   have:p0=u:=by simpa using hu
   subst this
   rcases hdep k hk with rfl|h'
   ·exact hseti
   ·exact xn h'
  ·exact xn (h.deps j u hj' hu k hk)
end
def Hu{l t:List Oper}{ts:List TS}{Ss:V5}(hsl:vR E.N.n [] l=true)(hlen:ts.length=l.length)(hesl:es.length=l.length)(hd:DT E G (l++t) ts Ss es 0 l es)(D:xC (l++t) l.length t.length=true)(hQ: ∀a w S σ,St E (Ox Ss (BC es) σ) (Ig l (Q4 ts σ) G) a w S->wpListIn (fw E.r) 0 E.P (l++t).toArray ah t a w):
  ∀(fuel:Nat) (done:Array Bool) (a:Act) (w:World) (S:SH) (σ:Nat->OI),ld done=fuel->(∀j,l.length<=j->done.getD j false=false)->TX E G (l++t) ts Ss es done a w S σ->wpAnyIn (fw E.r) 0 E.P .any (l++t).toArray ah fuel done a w:=by
 have hL1: ∀i o,i<l.length->(l++t)[i]? =some o->l[i]? =some o:=fun i o hi h=>by rwa [yS hi]at h
 have hL2: ∀i o,l[i]? =some o->(l++t)[i]? =some o:=fun i o h=>by rw [yS (q8.1 h).1];exact h
 have htail: ∀m o,l.length<=m->(l++t)[m]? =some o->va (l++t) m=true/\ef m o=true:=fun m o hm ho=>by
  have hml:m<(l++t).length:=(q8.1 ho).1
  rw [kJ]at hml
  unfold xC at D
  have:=lw.1 D (m-l.length) (by simp;omega)
  rw [show l.length+(m-l.length)=m from by omega,ho]at this
  simp only [nP]at this
  exact⟨this.1,this.2.1⟩
 have hget:=fun i o (hi:l[i]? =some o)=>DT.get l es 0 hd i o hi
 have hedge: ∀i o,(l++t)[i]? =some o->ef i o=true:=fun i o hi=>by
  rcases nf i l.length with h|h
  ·obtain⟨_,_,_,_,_,_,_,h,_⟩:=hget i o (hL1 i o h hi)
   simpa using h
  ·exact(htail i o h hi).2
 obtain⟨hs1,hs2⟩:=A5 l [] hsl
 have fin: ∀fuel done a w S σ,ld done=fuel->(∀j,l.length<=j->done.getD j false=false)->TX E G (l++t) ts Ss es done a w S σ->(∀i,i<l.length->done.getD i false=true)->wpAnyIn (fw E.r) 0 E.P .any (l++t).toArray ah fuel done a w:=by
  intro fuel done a w S σ hu hfree h hall
  have hdn:Es es done=BC es:=by
   unfold Es BC
   refine List.filter_congr fun k hk=>?_
   rw [hall k (by rw [<-hesl];exact List.mem_range.1 hk),Bool.and_true]
  have hown:=h.own
  rw [hdn]at hown
  refine xY (n:=l.length) (fun m o hm ho=>(htail m o hm ho).1) hedge t l.length done fuel a w (dY _) (by simp) h.dsz (fun j hj=>⟨fun hjd=>?_,fun hlt=>hall j hlt⟩) hu
   (hQ a w S σ ⟨h.ext,h.sat,hown,h.size,h.defers,fun j u hj=>?_⟩)
  ·rcases nf j l.length with h' |h'
   ·exact h'
   ·rw [hfree j h']at hjd;cases hjd
  ·rcases Fe l (Q4 ts σ) j u (by unfold Q4;rw [Ez];exact hlen) hj with⟨i,o,Y,H,s⟩|⟨Y,H⟩
   ·unfold Q4 at s
    rw [Hi]at s
    cases hf:ts[i]? with
    |none=>rw [hf]at s;simp at s
    |some f=>
     rw [hf]at s
     have e:f.at σ=u:=by simpa using s
     rw [<-e]
     exact h.new i o j f (hL2 i o Y) (hall i (q8.1 Y).1) H hf
   ·refine h.old j u Y fun i o ho hdn=>?_
    rcases nf i l.length with h' |h'
    ·exact H o (sI (hL1 i o h' ho))
    ·rw [hfree i h']at hdn;cases hdn
 have lower: ∀done a w S σ i,(∀j,l.length<=j->done.getD j false=false)->TX E G (l++t) ts Ss es done a w S σ->i∈Region.ready .any (l++t).toArray done->l.length<=i-> ∀j,j<l.length->done.getD j false=true:=by
  intro done a w S σ i hfree h hi hge j hj
  obtain⟨hun,p,hp,hwait⟩:=rU.1 hi
  have hp' :(l++t)[i]? =some p:=by simpa using hp
  have hcov:=(htail i p hge hp').1
  unfold va at hcov
  have hre:=lw.1 hcov j (by simp;omega)
  exact ga h.down _ i j (fun q hq e he W=>by
   have:q=p:=by rw [hp']at hq;simpa using hq.symm
   subst this
   exact hwait e he W) hre
 intro fuel
 induction fuel with
 |zero=>
  intro done a w S σ hu hfree h
  exact fin 0 done a w S σ hu hfree h fun i hi=>sQ hu (by rw [h.dsz,kJ];omega)
 |succ fuel ih=>
  intro done a w S σ hu hfree h
  by_cases hall: ∀i,i<l.length->done.getD i false=true
  ·exact fin _ done a w S σ hu hfree h hall
  have hready0: ∀m i,i<m->i<l.length->Region.ready .any (l++t).toArray done=[]->done.getD i false=true:=by
   intro m
   induction m with
   |zero=>intro i h;omega
   |succ m ihm=>
    intro i him hil hr
    have his:i<done.size:=by rw [h.dsz,kJ];omega
    by_cases hdn:done.getD i true=true
    ·rw [<-n7 his];exact hdn
    ·exfalso
     obtain⟨o,ho⟩: ∃o,(l++t)[i]? =some o:=⟨l[i],hL2 i _ (sG hil)⟩
     have hmem:i∈Region.ready .any (l++t).toArray done:=by
      rw [rU]
      refine⟨by simpa using hdn,o,by simpa using ho,fun e he W=>?_⟩
      have:=hedge i o ho
      unfold ef at this
      have:=lw.1 this e (by simpa using he)
      simp only [W,rk,tu,tt]at this
      exact ihm e.on (by omega) (by omega) hr
     rw [hr]at hmem;cases hmem
  refine⟨fun hr=>absurd (fun i hi=>hready0 (i+1) i (by omega) hi hr) hall,fun i hi=>?_⟩
  have hil:i<l.length:=by
   rcases nf i l.length with h' |h'
   ·exact h'
   ·exact absurd (lower done a w S σ i hfree h hi h') hall
  obtain⟨hun,o,ho,hwait⟩:=rU.1 hi
  have ho' :(l++t)[i]? =some o:=by simpa using ho
  have hol:=hL1 i o hil ho'
  obtain⟨e,he,needs,u,Y,H,s,_,h4,h5⟩:=hget i o hol
  rw [vw]at Y s h4
  have hF:=h.need ho' hun hwait H s
  have his:i<done.size:=by rw [h.dsz,kJ];omega
  have hun' :done.getD i false=false:=by rw [<-n7 his];exact hun
  have hu' :ld (done.setIfInBounds i true)=fuel:=by have:=qf hun;omega
  have huq: ∀aL,o.dst=some aL-> ∀j p,(l++t)[j]? =some p->done.getD j false=true->p.dst=some aL->i=j:=fun aL hdd j p hj hjd hpd=>by
   rcases nf j l.length with h' |h'
   ·exact hs2 i j o p aL hol (hL1 j p h' hj) hdd hpd
   ·rw [hfree j h']at hjd;cases hjd
  have hfree' : ∀j,l.length<=j->(done.setIfInBounds i true).getD j false=false:=fun j hj=>by
   rw [vm false (by omega)];exact hfree j hj
  have hbl:E.base<=w.heap.size:=h.ext.size
  have hwaits: ∀q,(l++t)[i]? =some q-> ∀e∈q.after,Region.binds .any e=true->done.getD e.on false=true:=fun q hq e he W=>by
   have:q=o:=by rw [ho']at hq;simpa using hq.symm
   subst this
   exact hwait e he W
  have hdpp: ∀k∈u.1,k=i\/done.getD k false=true:=fun k hk=>by
   have:=lw.1 h4 k hk
   simp only [nP,z6]at this
   rcases this.2 with W|W
   ·exact .inl (oq W)
   ·exact .inr (ga h.down _ i k hwaits W)
  have hdNN: ∀aL,o.dst=some aL->aL<E.N.n:=fun aL hd=>(hs1 o (sI hol) aL hd).1
  unfold wpOpIn
  rw [ho]
  show if _ then _ else _
  -- just these effects stand
  have hpos:Zr (l++t) es i (Es es done)=false:=by
   rw [B8]
   intro hno
   unfold Zr at hno
   rw [z6]at hno
   rcases hno with hc|hc
   ·have:=(zi.1 (Hk.1 hc)).2
    rw [this]at hun';cases hun'
   ·obtain⟨k,hk1,hk2⟩:=B2.1 hc
    have hke:es[k]? =some true:=by
     unfold BC at hk1
     rw [List.mem_filter,List.mem_range]at hk1
     have h7:=hk1.2
     rw [sG hk1.1]at h7 ⊢
     simpa using h7
    by_cases hin:(Es es done).contains k=true
    ·rw [bo hin,z6]at hk2
     have hkd:=(zi.1 (Hk.1 hin)).2
     rcases hk2 with W|W
     ·have:=ga h.down _ k i (fun q hq e he W=>h.down k q hq hkd e he W) W
      rw [this]at hun';cases hun'
     ·obtain⟨j,hj1,hj2⟩:=B2.1 W
      rw [nP,DW]at hj2
      have hje:es[j]? =some true:=by
       unfold BC at hj1
       rw [List.mem_filter,List.mem_range]at hj1
       have h7:=hj1.2
       rw [sG hj1.1]at h7 ⊢
       simpa using h7
      have hjd:=ga h.down _ k j (fun q hq e he W=>h.down k q hq hkd e he W) hj2.2
      have:=Hk.2 (zi.2 ⟨hje,hjd⟩)
      rw [hj2.1]at this;cases this
    ·rw [aV hin]at hk2
     have hkd:=ga h.down _ i k hwaits hk2
     exact hin (Hk.2 (zi.2 ⟨hke,hkd⟩))
  have hwin: ∀aas:List (List Nat),MW (l++t) es i aas=true->Es es done∈aas:=by
   intro aas hw
   unfold MW at hw
   have:=lw.1 hw _ (QD es done)
   rw [hpos,tu]at this
   obtain⟨b,hb1,hb2⟩:=B2.1 this
   rw [<-KZ hb2];exact hb1
  cases e with
  |false=>
   simp only at h5
   obtain⟨hdS,aas,hw,h5⟩:=h5
   rw [vw]at hw
   obtain⟨aL,hdd⟩:=Option.isSome_iff_exists.1 hdS
   have h6:=h5.mem _ (hwin aas hw) σ a w S h.sat h.own hF
   have hdq:=N4 (done:=done) he
   by_cases hw:Region.wanted o (yielded (l++t).toArray a.tmps)=true
   ·rw [bo hw]at h6 ⊢
    refine kS (fun a' w' ⟨v,S',ha,X,hs,hv⟩=>?_) h6
    subst ha
    exact ih _ _ _ S' _ hu' hfree' (h.step ho' hdNN huq hwait Y hun hdpp X (fun _ W=>W.elim) hs (by rw [hdq];exact h.own.ext0 X) (fun _ _=>rfl) hv)
   ·rw [aV hw]at h6 ⊢
    exact⟨fun _ _=>trivial,ih _ _ _ S _ hu' hfree' (h.step ho' hdNN huq hwait Y hun hdpp (iP sJ _ _) (fun _ W=>W.elim) h.sat (by rw [hdq];exact h.own) (fun _ _=>rfl) h6)⟩
  |true=>
   simp only [vw]at h5
   obtain⟨aas,hw,hins,h5⟩:=h5
   obtain⟨p,hp1,hp2⟩:=B5.1 (hwin _ hw)
   have hp3:=KZ (lw.1 hins p hp1)
   have h6:=h5.mem p hp1 σ a w S h.sat (by rw [hp2];exact h.own) hF hbl
   have hdq:Es es (done.setIfInBounds i true)=p.2:=by rw [SV he his,<-hp2,hp3]
   by_cases hw:Region.wanted o (yielded (l++t).toArray a.tmps)=true
   ·rw [bo hw]at h6 ⊢
    refine kS (fun a' w' ⟨v,S',x,ha,X,hs,hown,hv⟩=>?_) h6
    subst ha
    exact ih _ _ _ S' _ hu' hfree' (h.step ho' hdNN huq hwait Y hun hdpp X (fun b ⟨f,hf,W⟩=>(d9.mem h.own f (by rw [<-hp2];exact hf)).2 b W) hs (by rw [hdq];exact hown) (fun k hk=>FW σ x hk) hv)
   ·rw [aV hw]at h6 ⊢
    obtain⟨x,hown,hv⟩:=h6
    exact⟨fun _ _=>trivial,ih _ _ _ S _ hu' hfree' (h.step ho' hdNN huq hwait Y hun hdpp (iP sJ _ _) (fun _ W=>W.elim) h.sat (by rw [hdq];exact hown) (fun k hk=>FW σ x hk) hv)⟩
def Jo{id:Nat}(m:Nat)(ts:List TS)(es:List Bool)(Ss:V5)(hO: ∀σ,Ox Ss [] σ=O)(hm:E.P.follows .mixedOrders=true)(hsl:vR E.N.n [] (L.take m)=true)(hlen:ts.length=(L.take m).length)(hesl:es.length=(L.take m).length)(D:xC L (L.take m).length (L.drop m).length=true)(hd:DT E G L ts Ss es 0 (L.take m) es)(k: ∀σ:Nat->OI,RG E L.toArray ah (L.drop m) (Ox Ss (BC es) σ) (Ig (L.take m) (Q4 ts σ) G)):CG E ah (.region id L.toArray true) O G:=fun a w S st=>by
 have hL:L=L.take m++L.drop m:=(rQ m L).symm
 generalize L.take m=l at hL hsl hlen hesl D hd k
 generalize L.drop m=t at hL D k
 subst hL
 refine wpIn_region_any hm ?_
 obtain⟨he,hs⟩:=wO (w:=w) st.sat
 have hdn0:Es es (Array.replicate (l++t).toArray.size false)=[]:=by
  unfold Es
  refine List.filter_eq_nil_iff.2 fun k hk=>?_
  simp [xW]
  intro _
  split<;>simp
 refine Hu hsl hlen hesl hd D (fun a w S σ st=>k σ a w S st) _ _ _ _ S (fun _=>jj) ?_ (fun j _=>?_)
  ⟨st.ext.step0 he,hs,by rw [hdn0,hO];exact st.own.ext0 he,st.facts.size,st.facts.defers,by simp,fun j o hj hdone=>?_,fun k t hk _=>st.facts.at_ k t hk,fun j o aL t hj hdone=>?_,fun j p hdone=>?_⟩
 ·unfold ld;rw [Lt,Lr];simp
 ·simp [xW];split<;>rfl
 ·simp [xW]at hdone
  split at hdone<;>simp at hdone
 ·simp [xW]at hdone
  split at hdone<;>simp at hdone
 ·simp [xW]at hdone
  split at hdone<;>simp at hdone

variable{base:Nat}
def d9.perm{B:Nat->Prop}(h:O.Perm O'):d9 base B w S O->d9 base B w S O' :=by
 induction h with
 |nil=>exact id
 |cons x p ih=>
  rintro⟨Y,H,s⟩
  exact⟨Y,fun f hf=>H f (p.mem_iff.2 hf),ih s⟩
 |swap x y l=>
  rintro⟨Y,H,s,h4,h5⟩
  refine⟨s,fun f hf k hk hfk=>?_,Y,fun f hf=>H f (o4 _ hf),h5⟩
  rcases j8.1 hf with rfl|hf
  ·exact H x (nQ ..) k hfk hk
  ·exact h4 f hf k hk hfk
 |trans _ _ ih1 ih2=>exact fun k=>ih2 (ih1 k)
def sX(O:List OE):List Nat->List OE
 |[]=>[]
 |i::l=>match O[i]? with
  |some e=>e::sX O l
  |none=>sX O l
def zd(O:List OE): ∀a b:List Nat,sX O (a++b)=sX O a++sX O b
 |[],_=>rfl
 |i::a,b=>by
  simp only [B3,sX]
  split<;>simp [zd O a b]
def Ke{a b:List Nat}(h:a.Perm b):(sX O a).Perm (sX O b):=by
 induction h with
 |nil=>exact .nil
 |cons x p ih=>
  simp only [sX]
  split
  ·exact .cons _ ih
  ·exact ih
 |swap x y l=>
  simp only [sX]
  cases X:O[x]? <;>cases hy:O[y]? <;>simp<;>exact .swap ..
 |trans _ _ ih1 ih2=>exact ih1.trans ih2
def Ic(O:List OE):sX O (List.range O.length)=O:=by
 have key: ∀n,n<=O.length->sX O (List.range n)=O.take n:=by
  intro n
  induction n with
  |zero=>intro _;rfl
  |succ n ih=>
   intro h
   rw [List.range_succ,zd,ih (by omega)]
   simp only [sX]
   rw [sG (by omega),Oz (by omega)]
 rw [key _ (dY _),B1]
def d9.pick{B:Nat->Prop}(l:List Nat)(hl:l.isPerm (List.range O.length)=true)(h:d9 base B w S O):d9 base B w S (sX O l):=
 h.perm (by
  have:=Ke (O:=O) (List.isPerm_iff.1 hl)
  rw [Ic]at this
  exact this.symm)

section
section
variable{ty:TypeId}
end
end
open Go.ChangeShapes Go.WideShapes Go.ChangeAt

variable{h2:Type}{hb:World}{enc:TypeId×Value->h2}
section
def Iv(hb:World):SH:=fun b=>hb.heap[b]?
def Un(hb:World)(V: ∀p∈WK,∃c T fr,hb.heap[p.1]? =some (.cells c T fr)/\c.toList.take p.2.length=p.2)(D: ∀w' :World,(∀(b:Nat) (o:Obj),hb.heap[b]? =some o-> ∃o',w'.heap[b]? =some o' /\Hf o o')->Wm w'):lJ hb (Iv hb):=⟨fun _ o h=>⟨o,h,sj o⟩,V,D⟩
def TU(enc:TypeId×Value->h2)(P:Program)(hb:World){α:Type}(t:TypeId)(r:Rp α):Prop:=
 P.cellsOf t=r.sz/\ ∀fuel cs x,DataW.trod enc P hb 0 (fun _=>true) true fuel t cs=some x-> ∃y,r.rc (Iv hb) cs y
def w8{α β:Type}{f:α->Option β}: ∀{l:List α} {r:List β},l.mapM f=some r->r.length=l.length/\ ∀(i:Nat) (x:α),l[i]? =some x-> ∃y,r[i]? =some y/\f x=some y
 |[],r,h=>by
  simp at h
  subst h
  exact⟨rfl,fun i x X=>by simp at X⟩
 |a::l,r,h=>by
  rw [List.mapM_cons]at h
  cases hf:f a with
  |none=>rw [hf]at h;simp at h
  |some b=>
   rw [hf]at h
   cases hm:l.mapM f with
   |none=>rw [hm]at h;simp at h
   |some r' =>
    rw [hm]at h
    simp at h
    subst h
    obtain⟨Y,H⟩:=w8 hm
    refine⟨by simp [Y],fun i x X=>?_⟩
    cases i with
    |zero=>simp at X;subst X;exact⟨b,rfl,hf⟩
    |succ i=>exact H i x (by simpa using X)
def AK{a:Addr}(h:hb.cell? a=some v):a.spot=none/\ ∃c E fr,hb.heap[a.block]? =some (.cells c E fr)/\c[a.off]? =some v:=by
 unfold World.cell? at h
 cases ho:hb.heap[a.block]? with
 |none=>rw [ho]at h;cases h
 |some o=>
  rw [ho]at h
  cases o with
  |cells c E fr=>
   simp only at h
   by_cases hs:a.spot.isSome=true
   ·rw [bo hs]at h;cases h
   ·rw [aV hs]at h
    exact⟨by cases hq:a.spot with
     |none=>rfl
     |some h3=>rw [hq]at hs;simp at hs,c,E,fr,rfl,h⟩
  |_=>simp at h
def FC(a:Addr):a.add 0=a:=by unfold Addr.add;rfl
def Lc(h:hb.cells? 0 ⟨b,off,none⟩ n=some cs)(hn:0<n): ∃c E fr,hb.heap[b]? =some (.cells c E fr)/\cs=(c.toList.drop off).take n:=by
 unfold World.cells? at h
 rw [bo (oC _)]at h
 obtain⟨Y,H⟩:=w8 h
 obtain⟨v,_,hv⟩:=H 0 0 (by simp [hn])
 obtain⟨_,c,E,fr,s,h4⟩:=AK hv
 refine⟨c,E,fr,by simpa [Addr.add] using s,?_⟩
 apply List.ext_getElem?
 intro i
 have hl:cs.length=n:=by simpa using Y
 by_cases hi:i<n
 ·obtain⟨v,h5,h6⟩:=H i i (by simp [hi])
  obtain⟨_,c',E',fr',h7,h8⟩:=AK h6
  rw [iN]at h7 h8
  have h7' :hb.heap[b]? =some (.cells c' E' fr'):=h7
  have h3' :hb.heap[b]? =some (.cells c E fr):=by simpa [Addr.add] using s
  rw [h3']at h7'
  injection h7' with h7'
  injection h7' with e1
  subst e1
  rw [h5,xp hi,uB]
  simpa using h8.symm
 ·rw [Cd (by omega),Cd (by simp;omega)]
def M0{q:Rp α}{len:Nat}{a:Addr}{x:DataW h2×List MemPlace}(h0' :0<q.sz)(hq:TU enc P hb e q)(X:(let elemAt (i:Nat):Option (DataW h2×List MemPlace):=(hb.cells? 0 (a.add (i*P.cellsOf e)) (P.cellsOf e)).bind (DataW.trod enc P hb 0 (fun _=>true) true n e)
   if 0<=a.block/\len<=cap/\cap<=maxLen then
    ((List.range len).mapM elemAt).bind fun elems=>
     (if(fun _=>true) a.block then(List.range (cap-len)).mapM fun j=>elemAt (len+j)else some []).map fun rest=>
      (DataW.slice (elems.map (·.1)) (rest.map (·.1)),MemPlace.row a ((elems.length+rest.length)*P.cellsOf e)++(elems++rest).flatMap (·.2))
   else none)=some x): ∃y,(gE q).rc (Iv hb) [.slice (some a) len cap] y:=by
 simp only at X
 split at X
 ·rename_i hcond
  obtain⟨_,hle,hmax⟩:=hcond
  cases hm:(List.range len).mapM (fun i=>(hb.cells? 0 (a.add (i*P.cellsOf e)) (P.cellsOf e)).bind (DataW.trod enc P hb 0 (fun _=>true) true n e))with
  |none=>rw [hm]at X;simp at X
  |some elems=>
   obtain⟨hm1,hm2⟩:=w8 hm
   rw [hq.1]at hm2
   by_cases hl0:len=0
   ·subst hl0;exact⟨[],some a,cap,rfl,oC _,hmax,.inl rfl⟩
   have hsp0:a.spot=none:=by
    obtain⟨z,_,hz⟩:=hm2 0 0 (by rw [List.getElem?_range (by omega)])
    rw [Nat.zero_mul,FC]at hz
    cases hcs:hb.cells? 0 a q.sz with
    |none=>rw [hcs]at hz;simp at hz
    |some cs1=>
     unfold World.cells? at hcs
     rw [bo (oC _)]at hcs
     obtain⟨_,g2⟩:=w8 hcs
     obtain⟨v,_,hv⟩:=g2 0 0 (by simp [h0'])
     rw [FC]at hv
     exact(AK hv).1
   have hcell: ∀i,i<len-> ∃c E fr,a.spot=none/\hb.heap[a.block]? =some (.cells c E fr)/\ ∃y,q.rc (Iv hb) ((c.toList.drop (a.off+i*q.sz)).take q.sz) y:=by
    intro i hi
    obtain⟨z,_,hz⟩:=hm2 i i (by simp [hi])
    cases hcs:hb.cells? 0 (a.add (i*q.sz)) q.sz with
    |none=>rw [hcs]at hz;simp at hz
    |some cs1=>
     rw [hcs]at hz
     have hsp:a.spot=none:=hsp0
     obtain⟨ab,ao,az⟩:=a
     simp only at hsp
     subst hsp
     rw [iN]at hcs
     obtain⟨c,E,fr,g1,g2⟩:=Lc hcs h0'
     obtain⟨y,hy⟩:=hq.2 n cs1 z hz
     exact⟨c,E,fr,rfl,g1,y,by rw [<-g2];exact hy⟩
   obtain⟨c,E,fr,hsp,W,_⟩:=hcell 0 (by omega)
   have key: ∀m,m<=len-> ∃ys:List α,ys.length=m/\qa q (Iv hb) ((c.toList.drop a.off).take (m*q.sz)) ys:=by
    intro m
    induction m with
    |zero=>intro _;exact⟨[],rfl,by simp [qa]⟩
    |succ m ih=>
     intro hm'
     obtain⟨ys,hy1,hy2⟩:=ih (by omega)
     obtain⟨c',E',fr',_,hb',y,hy⟩:=hcell m (by omega)
     rw [W]at hb'
     injection hb' with hb'
     injection hb' with e1
     subst e1
     refine⟨ys++[y],by simp [hy1],?_⟩
     have hsplit:(c.toList.drop a.off).take ((m+1)*q.sz)=(c.toList.drop a.off).take (m*q.sz)++(c.toList.drop (a.off+m*q.sz)).take q.sz:=by
      rw [vH,Nat.one_mul,List.take_add,rP]
     rw [hsplit]
     exact qk hy2 (Ka.2 hy)
   obtain⟨ys,hy1,hy2⟩:=key len (dY _)
   obtain⟨ab,ao,az⟩:=a
   simp only at hsp
   subst hsp
   exact⟨ys,some ⟨ab,ao,none⟩,cap,by rw [hy1],by omega,hmax,.inr ⟨ab,ao,c,E,fr,rfl,W,by rw [hy1];exact hy2⟩⟩
 ·cases X
def MZ{t:TypeId}{q:Rp α}(h:P.underlying t=some (.slice e))(hc:P.cellsOf t=1)(h0:Nat.blt 0 q.sz=true)(hq:TU enc P hb e q):TU enc P hb t (gE q):=⟨hc,fun fuel cs x X=>by
 have h0' :0<q.sz:=by simpa [tt] using h0
 cases fuel with
 |zero=>simp [DataW.trod]at X
 |succ n=>
  unfold DataW.trod at X
  rw [h]at X
  split at X
  all_goals try (injections;done)
  ·exact⟨[],none,0,rfl,dY _,oC _,.inl rfl⟩
  ·rename_i e' a len cap heq
   injection heq with e1
   injection e1 with e1
   subst e1
   exact M0 h0' hq X⟩
def HV{t:TypeId}(h:TU enc P hb t r)(hag:r.agg=false){aL:DataW h2}{ps:List MemPlace}(hv:DataW.Trod enc P hb 0 (fun _=>true) true t v aL ps)(hc:v.cells= #[v]): ∃y,(tD r y).p (Iv hb) v:=by
 obtain⟨fuel,X⟩:=hv
 rw [hc]at X
 obtain⟨y,hy⟩:=h.2 _ _ _ X
 exact⟨y,_,by unfold Rp.val;rw [hag];rfl,hy⟩

def I9{t:TypeId}(D:P.underlying t=some (.slice e))(hv:Value.okWide P hb .any base t v):v.cells= #[v]:=by
 cases v<;>first|rfl|(simp [Value.okWide,D,Cell.okWide,Cell.ok]at hv)
def GU{W' :World}(h:jK sJ hb S W' S'):Below hb.heap.size hb W' :=⟨h.os,h.tape,h.output,h.size,fun k hk=>h.heap k hk (fun h=>h)⟩
def xA(hl:laidOutB P=true){hb W' :World}(W:Below hb.heap.size hb W'){sp:Nat->Bool}: ∀{ts:List TypeId} {vs:List Value} {ds:List (DataW h2)} {ps:List MemPlace},(∀t∈ts,P.readableRec t=true/\t<P.types.size)->
  DataW.TrodAll enc P hb 0 (fun _=>true) true ts vs ds ps->(∀p∈ps,p.block<hb.heap.size)->(∀p∈ps,sp p.block=true)->DataW.TrodAll enc P W' 0 sp true ts vs ds ps
 |[],[],[],_,_,h,_,_=>h
 |t::ts,v::vs,aL::ds,_,hr,⟨p,q,Y,H,e⟩,hlt,hsp=>by
  subst e
  have D:=hr t (nQ ..)
  exact⟨p,q,WideElems.Trod_stays hl D.1 D.2 Y (fun x X=>W.same (hlt x (Cc _ X))) (fun x X=>hsp x (Cc _ X)),
   xA hl W (fun t D=>hr t (o4 _ D)) H (fun x X=>hlt x (List.mem_append_right _ X)) (fun x X=>hsp x (List.mem_append_right _ X)),rfl⟩
def PC{f:Func}{h3:ChangeSpec}{apart fresh handsOn again:Bool}{W' :World}{args:Array Value}{ds gs:List (DataW h2)}{before:List MemPlace}{tb:TypeId}(hl:laidOutB P=true)(hr: ∀t∈f.params.toList,P.readableRec t=true/\t<P.types.size)(hvs:h3.vars=[])(hres:f.resultTypes= #[tb])(htb:P.underlying tb=some .bool)(hW:DataW.Whole enc P f.params.toList h3.vars apart hb args.toList ds gs before)(hs:h3.fn h2 (ds++gs)={results:=[.lit (.bool true)],args:=ds})(W:Below hb.heap.size hb W'):
  h3.post enc P f apart fresh handsOn again hb args (.bool true) W' :=by
 have hW0:=hW
 have hlt:=hW.lt
 obtain⟨pa,pv,hA,hV,rfl,hz,hn⟩:=hW
 rw [hvs]at hV
 have hpv:pv=[]:=by
  cases gs with
  |nil=>exact hV
  |cons g gs=>exact hV.elim
 subst hpv
 have hlt' : ∀p∈pa,p.block<hb.heap.size:=fun p hp=>hlt p (by simpa using hp)
 have hargs: ∀sp:Nat->Bool,(∀p∈pa,sp p.block=true)->DataW.TrodAll enc P W' 0 sp true f.params.toList args.toList ds pa:=fun sp hsp=>xA hl W hr hA hlt' hsp
 have hresT: ∀(b:Nat) (sp:Nat->Bool) (hd:Bool),DataW.TrodAll enc P W' b sp hd f.resultTypes.toList ((Value.bool true).resultList f.resultTypes.size) [.lit (.bool true)] []:=fun b sp hd=>by
  rw [hres]
  exact⟨[],[],⟨1,by simp [DataW.trod,htb,Value.cells]⟩,rfl,rfl⟩
 have hvT: ∀sp:Nat->Bool,DataW.TrodVars enc P W' sp h3.vars (h3.fn h2 (ds++gs)).vars []:=fun sp=>by
  rw [hvs,hs];rfl
 have hargs' : ∀sp:Nat->Bool,(∀p∈pa,sp p.block=true)->DataW.TrodAll enc P W' 0 sp true f.params.toList args.toList (h3.fn h2 (ds++gs)).args pa:=fun sp hsp=>by rw [hs];exact hargs sp hsp
 have hres' : ∀(b:Nat) (sp:Nat->Bool) (hd:Bool),DataW.TrodAll enc P W' b sp hd f.resultTypes.toList ((Value.bool true).resultList f.resultTypes.size) (h3.fn h2 (ds++gs)).results []:=fun b sp hd=>by rw [hs];exact hresT b sp hd
 have hold: ∀p∈pa,(fun b=>decide (b<hb.heap.size)) p.block=true:=fun p hp=>by simpa using hlt' p hp
 refine⟨ds,gs,pa++[],[],pa,[],hW0,hres' _ _ _,hargs' _ hold,hvT _,World.keptBut_mono (fun p hp=>⟨hp,?_⟩) (W.frame _),fun _=>?_⟩
 ·right;simpa using hp
 ·refine⟨?_,_,_,([]++pa)++[],⟨[]++pa,[],trodAll_append (hargs' _ (fun _ _=>rfl)) (hres' _ _ _),hvT _,rfl,?_,?_⟩,?_⟩
  ·intro j t r Y H
   rw [hres]at Y H
   cases j with
   |zero=>
    simp [Value.resultList]at Y H
    subst Y H
    simp [Value.okWide,htb,Cell.okWide,Cell.ok]
   |succ j=>simp at Y
  ·intro b off hp
   have hp' :MemPlace.cell b off∈pa:=by simpa using hp
   have:=hlt' _ hp'
   rw [W.frozen (p:=⟨b,off,none⟩) this]
   exact hz b off (by simpa using hp')
  ·intro ha
   have:=hn ha
   simpa using this
  ·intro p hp _
   simpa using hp
end

section
def Y7{α:Type}(r:Rp α)(ok:α->Prop):Rp α where
 sz:=r.sz
 agg:=r.agg
 rc:=fun S cs x=>r.rc S cs x/\ok x
 mono:=fun h k=>⟨r.mono h k.1,k.2⟩
 len:=fun k=>r.len k.1
 one:=fun k=>r.one k.1
 sc:=r.sc
def WH(k:IntKind)(n:Int):Prop:=k.min<=n/\n<=k.max
def Zt{α:Type}(ok:α->Prop)(xs:List α):Prop:=xs.length<=maxLen/\ ∀x∈xs,ok x
def OW{t:TypeId}(h:P.underlying t=some (.int k))(hc:P.cellsOf t=1):TU enc P hb t (Y7 (rI k) (WH k)):=⟨hc,fun fuel cs x X=>by
 cases fuel with
 |zero=>simp [DataW.trod]at X
 |succ n=>
  unfold DataW.trod at X
  rw [h]at X
  split at X
  all_goals try (injections;done)
  ·rename_i k1 k2 m heq
   injection heq with e
   injection e with e
   subst e
   split at X
   ·rename_i H
    obtain⟨rfl,s⟩:=H
    simp only [Lit.wf,nP,mg]at s
    exact⟨m,rfl,s⟩
   ·cases X⟩
def YR{α:Type}(r' r:Rp α)(ok:α->Prop):Prop:=r'.sz=r.sz/\r'.agg=r.agg/\ ∀S cs x,r'.rc S cs x->r.rc S cs x/\ok x
def Us:YR (Y7 r ok) r ok:=⟨rfl,rfl,fun _ _ _ h=>h⟩
def LN{α:Type}{r' r:Rp α}{ok:α->Prop}(h:YR r' r ok){S:SH}: ∀{xs:List α} {cs:List Value},qa r' S cs xs->qa r S cs xs/\ ∀x∈xs,ok x
 |[],_,k=>⟨k,fun x X=>by cases X⟩
 |x::xs,_,⟨a,b,e,Y,H⟩=>by
  obtain⟨g1,g2⟩:=h.2.2 _ _ _ Y
  obtain⟨g3,g4⟩:=LN h H
  exact⟨⟨a,b,e,g1,g3⟩,fun y hy=>by
   rcases j8.1 hy with rfl|hy
   ·exact g2
   ·exact g4 y hy⟩
def Ur{r' :Rp α}(h:YR r' r ok):YR (gE r') (gE r) (Zt ok):=⟨rfl,rfl,fun S cs xs ⟨a,cap,e,Y,H,s⟩=>by
 rcases s with s|⟨b,off,c,E,fr,e1,e2,e3⟩
 ·exact⟨⟨a,cap,e,Y,H,.inl s⟩,by omega,fun x X=>by rw [s]at X;cases X⟩
 ·rw [h.1]at e3
  obtain⟨g1,g2⟩:=LN h e3
  exact⟨⟨a,cap,e,Y,H,.inr ⟨b,off,c,E,fr,e1,e2,g1⟩⟩,by omega,g2⟩⟩
def S2{t:TypeId}{r' :Rp α}(h:TU enc P hb t r')(hr:YR r' r ok)(hag:r.agg=false){aL:DataW h2}{ps:List MemPlace}(hv:DataW.Trod enc P hb 0 (fun _=>true) true t v aL ps)(hc:v.cells= #[v]): ∃y,(tD r y).p (Iv hb) v/\ok y:=by
 obtain⟨y,cs,e,hy⟩:=HV h (by rw [hr.2.1];exact hag) hv hc
 obtain⟨g1,g2⟩:=hr.2.2 _ _ _ hy
 exact⟨y,⟨cs,by rw [e];unfold Rp.val;rw [hr.2.1],g1⟩,g2⟩
end

section
variable{held:Bool}
end

def HW{α:Type}{r:Rp α}(hfree: ∀{S S' :SH} {cs:List Value} {x:α},r.rc S cs x->r.rc S' cs x){S S' :SH}: ∀{xs:List α} {cs:List Value},qa r S cs xs->qa r S' cs xs
 |[],_,h=>h
 |_::_,_,h=>by
  obtain⟨ds,es,Y,H,s⟩:=h
  exact⟨ds,es,Y,hfree H,HW hfree s⟩
def Zs{l:Option Nat}(h:yJ mm r T l cap xs w S)(hs:lJ w S): ∃S1,SH.le S S1/\lJ w S1/\(tD (gE r) xs).p S1 (au l cap xs.length):=by
 cases mm with
 |true=>exact⟨S,SH.le_refl _,hs,mC h⟩
 |false=>
  obtain⟨cells,Y,H,s⟩:=h
  cases l with
  |none=>exact⟨S,SH.le_refl _,hs,mC (T:=T) ⟨cells,Y,H,fun b W=>(by cases W)⟩⟩
  |some b=>
   obtain⟨cur,g1,g2,g3,g4,g5⟩:=Y
   have hoo:Hf (.cells cells.toArray T (0,0)) (.cells cur T (0,0)):=by
    refine⟨cur.toList.drop (xs.length*r.sz),?_⟩
    congr 1
    apply Array.ext'
    rw [<-g5,rQ]
   have hn:S b=none:=s b rfl
   have hle:SH.le S (S.set b (.cells cells.toArray T (0,0))):=uq fun q hq=>(by rw [hn]at hq;cases hq)
   have hsat:lJ w (S.set b (.cells cells.toArray T (0,0))):=hs.set g1 hoo fun q hq=>by rw [hn]at hq;cases hq
   refine⟨_,hle,hsat,mC (T:=T) ⟨cells,⟨cur,g1,g2,g3,g4,g5⟩,qW hle H,fun b' hb' =>?_⟩⟩
   have hb2:b=b' :=px hb'
   subst hb2
   exact mn _ _ _
section
variable{ty:TypeId}
def Ck{S1:SH}{vs:List Value}(h:t.p S1 v)(k:vG S1 ts vs):vG S1 (t::ts) (v::vs):=⟨h,k⟩
def Wf{G:lv}{x:Operand}{S1:SH}(h:aI N G x t)(hf:bO N S a G)(hle:SH.le S S1):t.p S1 (a.eval x):=t.mono hle (h S a hf)
def Rq{b:Bool}(S S' :SH)(v:Value)(h:(tD rB b).p S v):(tD rB b).p S' v:=iS.2 (iS.1 h)
end

section
variable{ty:TypeId}
def hH{y:α}{x:Operand}(hag:r.agg=true)(hr: ∀S,r.rc S [v] y)(h:aI N G x (K (.agg #[v]))):aI N G x (tD r y):=fun S a hf=>⟨[v],by rw [Rp.val,bo hag];exact h S a hf,hr S⟩
end

section
variable{N:Nat}{w0:World}{S0:SH}{O1:List OE}{ι:Type}{t:ι->Ty}{O2:ι->List OE}
end
section
variable{c:Code}
end

section
variable{ty:TypeId}
end
section
variable{ty:TypeId}
end

def J{α:Sort _}{a:α}:a=a:=rfl
def d:True:=trivial
abbrev bw(x:Int):Ty:=tD (rI .i64) x
abbrev gA(x:Bool):Ty:=tD rB x
abbrev oA{α:Type}(l:List α):Ty:=tD (rI .i64) (l.length:Int)
abbrev oz:Rp (List Int):=gE (rI .i64)
abbrev oo(l:List Int):Ty:=tD (gE (rI .i64)) l
abbrev eg{α:Type}(r:Rp α)(l:List α):Ty:=tD (gE r) l
abbrev qP{α:Type}(l:Option Nat)(c:Nat)(xs:List α):Ty:=K (au l c xs.length)
def bq: ∀{G' G:lv},G'.map (fun p=>cn G p.1)=G'.map (fun p=>some p.2)->M5 G' G
 |[],_,_=>trivial
 |(_,_)::_,_,h=>⟨(vM h).1,bq (vM h).2⟩

variable{ix:Nat}{xt:TypeId}
section
variable{ty:TypeId}
def lz(h:cn G x=some t):cm E O G ⟨dst,.move (.tmp x),ty,pos,after,g⟩ t:=ca (D h)
def Js(h:cn G x=some t):cm E O G ⟨dst,.assign (.tmp x),ty,pos,after,g⟩ t:=b9 (D h)
def zai{n:Int}:cm E O G ⟨dst,.assign (.const (.int k n)),ty,pos,after,g⟩ (tD (rI k) n):=b9 hI
def zab{b:Bool}:cm E O G ⟨dst,.assign (.const (.bool b)),ty,pos,after,g⟩ (tD rB b):=b9 hB
def Cf{x:α}{p:Nat}(ti:TI E.P U sz bytes agg z)(hp:cn G p=some (c8 r x))(hs:(r.sz,r.agg)=(sz,agg)):
  cm E O G ⟨dst,.load U (.tmp p),ty,pos,after,g⟩ (tD r x):=jV ti (vL hs).1 (vL hs).2 (D hp)
def vF{get:α->β}{x:α}{i:Nat}{p:Nat}(hf:bF E.P T i=some (off,sz))(hq:kP r off q get)(hp:cn G p=some (c8 r x))(h0:(!(Nat.beq sz 0)&&Nat.ble (off+q.sz) r.sz)=true):cm E O G ⟨dst,.fieldAddr T (.tmp p) i,ty,pos,after,g⟩ (c8 q (get x)):=
 ig hf (by cases h:Nat.beq sz 0<;>simp [h]at h0 ⊢) hq (by revert h0;cases Nat.ble (off+q.sz) r.sz<;>simp) (D hp)
def T0{t:TypeId}(hu:E.P.underlying t=some (.slice e))(X:cn G x=some (tD (gE r) xs)):
  cm E O G ⟨dst,.call ⟨.builtin .len,#[.tmp x],#[t]⟩,ty,pos,after,g⟩ (tD (rI .i64) (xs.length:Int)):=lS hu (D X)
def Jz{i:Nat}(hi:ts[i]? =some t)(X:cn G x=some (tT ts)):cm E O G ⟨dst,.extract (.tmp x) i,ty,pos,after,g⟩ t:=Kp hi (D X)
def zbx{v:α}(X:cn G x=some (tD r v)):cm E O G ⟨dst,.box T (.tmp x),ty,pos,after,g⟩ (c8 r v):=Ps (D X)
def YW{b q:Bool}(hc:cn G c=some (tD rB b))(X:cn G x=some (nT b (tD rB q))):cm E O G ⟨dst,.pick (.tmp c) (.tmp x) (.const (.bool false)),ty,pos,after,g⟩ (tD rB (b&&q)):=oU (D hc) (fun W=>bJ X W)
def V9{b q:Bool}(hc:cn G c=some (tD rB b))(X:cn G x=some (nT (!b) (tD rB q))):cm E O G ⟨dst,.pick (.tmp c) (.const (.bool true)) (.tmp x),ty,pos,after,g⟩ (tD rB (b||q)):=mO (D hc) (fun W=>bJ X (Au W))
variable{y:Nat}{m n:Int}
def zlt(X:cn G x=some (tD (rI k) m))(hy:cn G y=some (tD (rI k) n)):cm E O G ⟨dst,.binOp .lss xt (.tmp x) (.tmp y) yt,ty,pos,after,g⟩ (tD rB (decide (m<n))):=iC (D X) (D hy)
def YX(X:cn G x=some (tD (rI j) m)):cm E O G ⟨dst,.binOp .eql xt (.tmp x) (.const (.int j n)) yt,ty,pos,after,g⟩ (tD rB (m==n)):=dW (D X) hI
def zni(X:cn G x=some (tD (rI j) m)):cm E O G ⟨dst,.binOp .neq xt (.tmp x) (.const (.int j n)) yt,ty,pos,after,g⟩ (tD rB (m !=n)):=jU (D X) hI
def Ly{y:α}{x:Nat}{t:TypeId}{k:IntKind}{i:Int}(hu:E.P.underlying t=some (.slice e))(ti:TI E.P e sz bytes agg z)(hsz:r.sz=sz)(X:cn G x=some (tD (gE r) xs))(hi:cn G ix=some (tD (rI k) i))(hy:gG xs i=some y):
  cm E O G ⟨dst,.indexAddr t (.tmp x) (.tmp ix),ty,pos,after,g⟩ (c8 r y):=uN hu ti hsz (D X) (D hi) hy
def zin{i:Nat}{x:Nat}{xt yt:TypeId}(hi:i<9223372036854775807)(X:cn G x=some (tD (rI .i64) (i:Int))):
  cm E O G ⟨dst,.binOp .add xt (.tmp x) (.const (.int .i64 1)) yt,ty,pos,after,g⟩ (tD (rI .i64) ((i+1:Nat):Int)):=BN hi (D X) hI
def nR{i o:Nat}{p:Nat}(n:Nat)(hf:bF E.P T i=some (off,sz))(h0:Nat.beq sz 0=false)(hp:cn G p=some (K (M b o)))(he:o+off=n):cm E O G ⟨dst,.fieldAddr T (.tmp p) i,ty,pos,after,g⟩ (K (M b n)):=bQ (n:=n) hf h0 (D hp) he
end
section
variable{l:List Oper}
def zo{ty:TypeId}(hd:Nat.blt aL E.N.n=true)(h:cm E O G ⟨some aL,op,ty,pos,after,none⟩ t)(k:RG E ops ah l O ((aL,t)::G)):
  RG E ops ah (⟨some aL,op,ty,pos,after,none⟩::l) O G:=tn h hd k
def uP(n aL:Nat)(r:Option Ty):Option Ty:=if Nat.blt aL n then r else none
def dm{r:Option Ty}(h:uP n aL r=some t):Nat.blt aL n=true/\r=some t:=by
 unfold uP at h;split at h
 case isTrue Y=>exact⟨Y,h⟩
 case isFalse=>cases h
def aQ{ty:TypeId}(h:uP E.N.n aL (cn G x)=some t)(k:RG E ops ah l O ((aL,t)::G)):
  RG E ops ah (⟨some aL,.move (.tmp x),ty,pos,after,none⟩::l) O G:=tn (ca (D (dm h).2)) (dm h).1 k
def gB{ty:TypeId}(h:uP E.N.n aL (cn G x)=some t)(k:RG E ops ah l O ((aL,t)::G)):
  RG E ops ah (⟨some aL,.assign (.tmp x),ty,pos,after,none⟩::l) O G:=tn (b9 (D (dm h).2)) (dm h).1 k
def bt(h:CG E ah y O G):RG E ops (Exit.then (y.wpIn (fw E.r) 0 E.P ah) ah) [] O G:=aU (aG h)
def be{id:Nat}{l:List Oper}(h:RG E l.toArray (Exit.then (y.wpIn (fw E.r) 0 E.P ah) ah) l O G):CG E ah (.seq (.region id l.toArray false) y) O G:=aS (av h)
def iY{β:Type _}{hx h1:Option β}{r:β}{x:Code}{b:Bool}(h:(if b=true then hx else h1)=some r)(W:cn G c=some (tD rB b))(X:hx=some r->CG E ah x O G)(hy:h1=some r->CG E ah y O G):CG E ah (.cond (.tmp c) x y) O G:=
 pY (D W) (fun hc=>X (ct h hc)) (fun hc=>hy (cf h hc))
def jv(h:CG E ah y O G):CG E (Exit.then (y.wpIn (fw E.r) 0 E.P ah) ah) .skip O G:=bG (aG h)
def zgt{j gs:Nat}{b:Bool}{ty:TypeId}(hj:(ops[j]?).bind (·.dst)=some gs)(V:uP E.N.n gs (uP E.N.n aL (cn G gs))=some (tD rB b))(h:b=true->cm E O G ⟨some aL,op,ty,pos,after,some (j,true)⟩ t)(k:RG E ops ah l O ((aL,nT b t)::G)):RG E ops ah (⟨some aL,op,ty,pos,after,some (j,true)⟩::l) O G:=S5 hj (dm V).1 (dm (dm V).2).2 (dm (dm V).2).1 h k
def zgf{j gs:Nat}{b:Bool}{ty:TypeId}(hj:(ops[j]?).bind (·.dst)=some gs)(V:uP E.N.n gs (uP E.N.n aL (cn G gs))=some (tD rB b))(h:(!b)=true->cm E O G ⟨some aL,op,ty,pos,after,some (j,false)⟩ t)(k:RG E ops ah l O ((aL,nT (!b) t)::G)):RG E ops ah (⟨some aL,op,ty,pos,after,some (j,false)⟩::l) O G:=S6 hj (dm V).1 (dm (dm V).2).2 (dm (dm V).2).1 h k
end
def bK{α:Type _}{β:Type _}{x:Option α}{k:α->Option β}{r:β}{P:Prop}(h:x.bind k=some r)(f: ∀y,x=some y->k y=some r->P):P:=by
 obtain⟨y,Y,H⟩:=bs h;exact f y Y H
variable{u1:Ty}
section
variable{l:List Oper}{i:Nat}
def BD{a b c:Bool}(h:(a&&b&&c)=true):a=true/\b=true/\c=true:=by revert h;cases a<;>cases b<;>cases c<;>simp
def WF{x:Option α}(h:x.isNone=true):x=none:=by cases x;rfl;cases h
def zd0(h:ts[i]? =some t)(k:cm E O [] o t)(W:(ef i o&&o.guard.isNone)=true:=by exact rfl): ∃(needs:List Nd) (t:Ty),ts[i]? =some t/\q6 G ts needs/\(needs.all (ot l o i))=true/\ef i o=true/\cj E O l.toArray (je needs) o t:=
 ⟨[],t,h,trivial,rfl,(Hg.1 W).1,ac (WF (Hg.1 W).2) k⟩
def JA(a:Nat)(h:ts[i]? =some t)(hu:xv G ts ⟨a,u,none⟩)(k:cm E O [(a,u)] o t)(W:([(⟨a,u,none⟩:Nd)].all (ot l o i)&&ef i o&&o.guard.isNone)=true:=by exact rfl): ∃(needs:List Nd) (t:Ty),ts[i]? =some t/\q6 G ts needs/\(needs.all (ot l o i))=true/\ef i o=true/\cj E O l.toArray (je needs) o t:=
 ⟨[(⟨a,u,none⟩:Nd)],t,h,⟨hu,trivial⟩,(BD W).1,(BD W).2.1,ac (WF (BD W).2.2) k⟩
def fW(a:Nat)(j:Nat)(h:ts[i]? =some t)(hu:xv G ts ⟨a,u,(some j)⟩)(k:cm E O [(a,u)] o t)(W:([(⟨a,u,(some j)⟩:Nd)].all (ot l o i)&&ef i o&&o.guard.isNone)=true:=by exact rfl): ∃(needs:List Nd) (t:Ty),ts[i]? =some t/\q6 G ts needs/\(needs.all (ot l o i))=true/\ef i o=true/\cj E O l.toArray (je needs) o t:=
 ⟨[(⟨a,u,(some j)⟩:Nd)],t,h,⟨hu,trivial⟩,(BD W).1,(BD W).2.1,ac (WF (BD W).2.2) k⟩
def Ri(a:Nat)(a1:Nat)(j1:Nat)(h:ts[i]? =some t)(hu:xv G ts ⟨a,u,none⟩)(hu1:xv G ts ⟨a1,u1,(some j1)⟩)(k:cm E O [(a,u),(a1,u1)] o t)(W:([(⟨a,u,none⟩:Nd),⟨a1,u1,(some j1)⟩].all (ot l o i)&&ef i o&&o.guard.isNone)=true:=by exact rfl): ∃(needs:List Nd) (t:Ty),ts[i]? =some t/\q6 G ts needs/\(needs.all (ot l o i))=true/\ef i o=true/\cj E O l.toArray (je needs) o t:=
 ⟨[(⟨a,u,none⟩:Nd),⟨a1,u1,(some j1)⟩],t,h,⟨hu,hu1,trivial⟩,(BD W).1,(BD W).2.1,ac (WF (BD W).2.2) k⟩
def D3(a:Nat)(a1:Nat)(j1:Nat)(h:ts[i]? =some t)(hu:xv G ts ⟨a,u,none⟩)(hu1:xv G ts ⟨a1,u1,(some j1)⟩)(k:cj E O l.toArray [(a,u),(a1,u1)] o t)(W:([(⟨a,u,none⟩:Nd),⟨a1,u1,(some j1)⟩].all (ot l o i)&&ef i o)=true:=by exact rfl): ∃(needs:List Nd) (t:Ty),ts[i]? =some t/\q6 G ts needs/\(needs.all (ot l o i))=true/\ef i o=true/\cj E O l.toArray (je needs) o t:=
 ⟨[(⟨a,u,none⟩:Nd),⟨a1,u1,(some j1)⟩],t,h,⟨hu,hu1,trivial⟩,(Hg.1 W).1,(Hg.1 W).2,k⟩
def j9(a:Nat)(j:Nat)(a1:Nat)(j1:Nat)(h:ts[i]? =some t)(hu:xv G ts ⟨a,u,(some j)⟩)(hu1:xv G ts ⟨a1,u1,(some j1)⟩)(k:cm E O [(a,u),(a1,u1)] o t)(W:([(⟨a,u,(some j)⟩:Nd),⟨a1,u1,(some j1)⟩].all (ot l o i)&&ef i o&&o.guard.isNone)=true:=by exact rfl): ∃(needs:List Nd) (t:Ty),ts[i]? =some t/\q6 G ts needs/\(needs.all (ot l o i))=true/\ef i o=true/\cj E O l.toArray (je needs) o t:=
 ⟨[(⟨a,u,(some j)⟩:Nd),⟨a1,u1,(some j1)⟩],t,h,⟨hu,hu1,trivial⟩,(BD W).1,(BD W).2.1,ac (WF (BD W).2.2) k⟩
def tB(a:Nat)(j:Nat)(a1:Nat)(j1:Nat)(h:ts[i]? =some t)(hu:xv G ts ⟨a,u,(some j)⟩)(hu1:xv G ts ⟨a1,u1,(some j1)⟩)(k:cj E O l.toArray [(a,u),(a1,u1)] o t)(W:([(⟨a,u,(some j)⟩:Nd),⟨a1,u1,(some j1)⟩].all (ot l o i)&&ef i o)=true:=by exact rfl): ∃(needs:List Nd) (t:Ty),ts[i]? =some t/\q6 G ts needs/\(needs.all (ot l o i))=true/\ef i o=true/\cj E O l.toArray (je needs) o t:=
 ⟨[(⟨a,u,(some j)⟩:Nd),⟨a1,u1,(some j1)⟩],t,h,⟨hu,hu1,trivial⟩,(Hg.1 W).1,(Hg.1 W).2,k⟩
def OJ(a:Nat)(j:Nat)(a1:Nat)(j1:Nat)(a2:Nat)(j2:Nat){u2:Ty}(h:ts[i]? =some t)(hu:xv G ts ⟨a,u,(some j)⟩)(hu1:xv G ts ⟨a1,u1,(some j1)⟩)(hu2:xv G ts ⟨a2,u2,(some j2)⟩)(k:cj E O l.toArray [(a,u),(a1,u1),(a2,u2)] o t)(W:([(⟨a,u,(some j)⟩:Nd),⟨a1,u1,(some j1)⟩,⟨a2,u2,(some j2)⟩].all (ot l o i)&&ef i o)=true:=by exact rfl): ∃(needs:List Nd) (t:Ty),ts[i]? =some t/\q6 G ts needs/\(needs.all (ot l o i))=true/\ef i o=true/\cj E O l.toArray (je needs) o t:=
 ⟨[(⟨a,u,(some j)⟩:Nd),⟨a1,u1,(some j1)⟩,⟨a2,u2,(some j2)⟩],t,h,⟨hu,hu1,hu2,trivial⟩,(Hg.1 W).1,(Hg.1 W).2,k⟩
end

def vo{r h3:Option Ty}(h:(uP n aL r,h3)=(some t,some u)):Nat.blt aL n=true/\r=some t/\h3=some u:=
 ⟨(dm (vL h).1).1,(dm (vL h).1).2,(vL h).2⟩
def Tg(G:lv):Operand->Option Ty
 | .tmp k=>cn G k
 | .const (.int k n)=>some (tD (rI k) n)
 | .const (.bool b)=>some (tD rB b)
 |_=>none
def JH: ∀{x:Operand},Tg G x=some t->aI N G x t
 | .tmp _,h=>D h
 | .const (.int _ _),h=>by cases h;exact hI
 | .const (.bool _),h=>by cases h;exact hB
def ez{N:Fr}{G:lv}: ∀{xs:List Operand} {ts:List Ty},xs.map (Tg G)=ts.map some->j4 N G xs ts
 |[],[],_=>trivial
 |_::_,_::_,h=>⟨JH (vM h).1,ez (vM h).2⟩

variable{after2:Array Edge}{d2 id' :Nat}{pos2:String}{tl:List α}{ty2:TypeId}
section
variable{l:List Oper}{ty:TypeId}
def Q(h:cm E O G ⟨some aL,op,ty,pos,after,none⟩ t)(k:RG E ops ah l O ((aL,t)::G))(hd:Nat.blt aL E.N.n=true:=by exact rfl):
  RG E ops ah (⟨some aL,op,ty,pos,after,none⟩::l) O G:=tn h hd k
def fP{x:α}{p:Nat}(ti:TI E.P U sz bytes agg z)(hp:uP E.N.n aL (cn G p)=some (c8 r x))(k:RG E ops ah l O ((aL,tD r x)::G))(hs:(r.sz,r.agg)=(sz,agg):=by exact rfl):RG E ops ah (⟨some aL,.load U (.tmp p),ty,pos,after,none⟩::l) O G:=zo (dm hp).1 (Cf ti (dm hp).2 hs) k
def tX{get:α->β}{x:α}{i:Nat}{p:Nat}(hf:bF E.P T i=some (off,sz))(hq:kP r off q get)(hp:uP E.N.n aL (cn G p)=some (c8 r x))(k:RG E ops ah l O ((aL,c8 q (get x))::G))(h0:(!(Nat.beq sz 0)&&Nat.ble (off+q.sz) r.sz)=true:=by exact rfl):
  RG E ops ah (⟨some aL,.fieldAddr T (.tmp p) i,ty,pos,after,none⟩::l) O G:=zo (dm hp).1 (vF hf hq (dm hp).2 h0) k
def bI{get:α->β}{x:α}{i s2:Nat}{p p2:Nat}(hf:bF E.P T i=some (off,sz))(hq:kP r off q get)(ti:TI E.P U s2 bytes agg z)(hp:uP E.N.n aL (cn G p)=some (c8 r x))(k:RG E ops ah l O ((d2,tD q (get x))::(aL,c8 q (get x))::G))(h0:(!(Nat.beq sz 0)&&Nat.ble (off+q.sz) r.sz)=true:=by exact rfl)(hp2:uP E.N.n d2 (cn ((aL,c8 q (get x))::G) p2)=some (c8 q (get x)):=by exact rfl)(hs:(q.sz,q.agg)=(s2,agg):=by exact rfl):
  RG E ops ah (⟨some aL,.fieldAddr T (.tmp p) i,ty,pos,after,none⟩::⟨some d2,.load U (.tmp p2),ty2,pos2,after2,none⟩::l) O G:=tX hf hq hp (fP ti hp2 k hs) h0
def aT{i o:Nat}{p:Nat}(n:Nat)(hf:bF E.P T i=some (off,sz))(hp:uP E.N.n aL (cn G p)=some (K (M b o)))(k:RG E ops ah l O ((aL,K (M b n))::G))(h0:Nat.beq sz 0=false:=by exact rfl)(he:o+off=n:=by exact rfl):RG E ops ah (⟨some aL,.fieldAddr T (.tmp p) i,ty,pos,after,none⟩::l) O G:=zo (dm hp).1 (nR n hf h0 (dm hp).2 he) k
def eh{i:Nat}(X:uP E.N.n aL (cn G x)=some (tT ts))(hi:ts[i]? =some t)(k:RG E ops ah l O ((aL,t)::G)):RG E ops ah (⟨some aL,.extract (.tmp x) i,ty,pos,after,none⟩::l) O G:=zo (dm X).1 (Jz hi (dm X).2) k
def cJ{n:Int}(k:RG E ops ah l O ((aL,tD (rI j) n)::G))(hd:Nat.blt aL E.N.n=true:=by exact rfl):RG E ops ah (⟨some aL,.assign (.const (.int j n)),ty,pos,after,none⟩::l) O G:=zo hd zai k
def bL{b:Bool}(k:RG E ops ah l O ((aL,tD rB b)::G))(hd:Nat.blt aL E.N.n=true:=by exact rfl):RG E ops ah (⟨some aL,.assign (.const (.bool b)),ty,pos,after,none⟩::l) O G:=zo hd zab k
def cM(hu:E.P.underlying st=some (.slice e))(X:uP E.N.n aL (cn G x)=some (tD (gE r) xs))(k:RG E ops ah l O ((aL,tD (rI .i64) (xs.length:Int))::G)):
  RG E ops ah (⟨some aL,.call ⟨.builtin .len,#[.tmp x],#[st]⟩,ty,pos,after,none⟩::l) O G:=zo (dm X).1 (T0 hu (dm X).2) k
def fv{v:α}(X:uP E.N.n aL (cn G x)=some (tD r v))(k:RG E ops ah l O ((aL,c8 r v)::G)):RG E ops ah (⟨some aL,.box T (.tmp x),ty,pos,after,none⟩::l) O G:=zo (dm X).1 (zbx (dm X).2) k
def cU{b q:Bool}(h:(uP E.N.n aL (cn G c),cn G x)=(some (tD rB b),some (nT b (tD rB q))))(k:RG E ops ah l O ((aL,tD rB (b&&q))::G)):
  RG E ops ah (⟨some aL,.pick (.tmp c) (.tmp x) (.const (.bool false)),ty,pos,after,none⟩::l) O G:=zo (vo h).1 (YW (vo h).2.1 (vo h).2.2) k
def kG{b q:Bool}(h:(uP E.N.n aL (cn G c),cn G x)=(some (tD rB b),some (nT (!b) (tD rB q))))(k:RG E ops ah l O ((aL,tD rB (b||q))::G)):
  RG E ops ah (⟨some aL,.pick (.tmp c) (.const (.bool true)) (.tmp x),ty,pos,after,none⟩::l) O G:=zo (vo h).1 (V9 (vo h).2.1 (vo h).2.2) k
section
variable{y:Nat}{m n:Int}
def nk(h:(uP E.N.n aL (cn G x),cn G y)=(some (tD (rI j) m),some (tD (rI j) n)))(k:RG E ops ah l O ((aL,tD rB (decide (m<n)))::G)):
  RG E ops ah (⟨some aL,.binOp .lss xt (.tmp x) (.tmp y) yt,ty,pos,after,none⟩::l) O G:=zo (vo h).1 (zlt (vo h).2.1 (vo h).2.2) k
def bP(X:uP E.N.n aL (cn G x)=some (tD (rI j) m))(k:RG E ops ah l O ((aL,tD rB (m==n))::G)):RG E ops ah (⟨some aL,.binOp .eql xt (.tmp x) (.const (.int j n)) yt,ty,pos,after,none⟩::l) O G:=zo (dm X).1 (YX (dm X).2) k
def oj(X:uP E.N.n aL (cn G x)=some (tD (rI j) m))(k:RG E ops ah l O ((aL,tD rB (m !=n))::G)):RG E ops ah (⟨some aL,.binOp .neq xt (.tmp x) (.const (.int j n)) yt,ty,pos,after,none⟩::l) O G:=zo (dm X).1 (zni (dm X).2) k
def lr{c:Bool}(X:cn G x=some (nT c (tD (rI j) m)))(hc:c=true):cm E O G ⟨dst,.binOp .eql xt (.tmp x) (.const (.int j n)) yt,ty,pos,after,g⟩ (tD rB (m==n)):=dW (bJ X hc) hI
def A4{c:Bool}(X:cn G x=some (nT c (tD (rI j) m)))(hc:c=true):cm E O G ⟨dst,.binOp .neq xt (.tmp x) (.const (.int j n)) yt,ty,pos,after,g⟩ (tD rB (m !=n)):=jU (bJ X hc) hI
def fY{i a id:Nat}{z w:Code}(X:xs.drop i=[])(h:(uP E.N.n aL (cn G a),cn G b)=(some (tD (rI .i64) (i:Int)),some (tD (rI .i64) (xs.length:Int))))(k:AT E ah .normal O ((aL,tD rB (decide ((i:Int)<(xs.length:Int))))::G))(hc:cn ((aL,tD rB (decide ((i:Int)<(xs.length:Int))))::G) c=some (tD rB (decide ((i:Int)<(xs.length:Int)))):=by exact rfl):
  LG E (Exit.inBlock id ah) (.seq (.region id' [⟨some aL,.binOp .lss xt (.tmp a) (.tmp b) yt,ty,pos,after,none⟩].toArray false) (.seq (.cond (.tmp c) z (.exit id)) w)) O G:=
 ea<|be<|nk h<|bt<|aS<|z1 (D hc) (TB X)<|dq<|aq (aq (bR k))
def fX{e:α}{i a:Nat}{z w:Code}(X:xs.drop i=e::tl)(h:(uP E.N.n aL (cn G a),cn G b)=(some (tD (rI .i64) (i:Int)),some (tD (rI .i64) (xs.length:Int))))(k:CG E (Exit.then (yo E.r E.P (.seq (.region id' [⟨some aL,.binOp .lss xt (.tmp a) (.tmp b) yt,ty,pos,after,none⟩].toArray false) (.seq (.cond (.tmp c) .skip z) w)) ah) ah) w O ((aL,tD rB (decide ((i:Int)<(xs.length:Int))))::G))(hc:cn ((aL,tD rB (decide ((i:Int)<(xs.length:Int))))::G) c=some (tD rB (decide ((i:Int)<(xs.length:Int)))):=by exact rfl):
  LG E ah (.seq (.region id' [⟨some aL,.binOp .lss xt (.tmp a) (.tmp b) yt,ty,pos,after,none⟩].toArray false) (.seq (.cond (.tmp c) .skip z) w)) O G:=
 ea<|be<|nk h<|bt<|aS<|zZ (D hc) (QC X)<|jv k
end
def EK{y:α}{i:Int}(hu:E.P.underlying st=some (.slice e))(ti:TI E.P e sz bytes agg z)(h:(uP E.N.n aL (cn G x),cn G ix)=(some (tD (gE r) xs),some (tD (rI j) i)))(hy:gG xs i=some y)(k:RG E ops ah l O ((aL,c8 r y)::G))(hsz:r.sz=sz:=by exact rfl):
  RG E ops ah (⟨some aL,.indexAddr st (.tmp x) (.tmp ix),ty,pos,after,none⟩::l) O G:=zo (vo h).1 (Ly hu ti hsz (vo h).2.1 (vo h).2.2 hy) k
def gq{y:α}{i:Int}{p2:Nat}(hu:E.P.underlying st=some (.slice e))(ti:TI E.P e sz bytes agg z)(h:(uP E.N.n aL (cn G x),cn G ix)=(some (tD (gE r) xs),some (tD (rI j) i)))(hy:gG xs i=some y)(k:RG E ops ah l O ((d2,tD r y)::(aL,c8 r y)::G))(hsz:r.sz=sz:=by exact rfl)(hp2:uP E.N.n d2 (cn ((aL,c8 r y)::G) p2)=some (c8 r y):=by exact rfl)(hs:(r.sz,r.agg)=(sz,agg):=by exact rfl):
  RG E ops ah (⟨some aL,.indexAddr st (.tmp x) (.tmp ix),ty,pos,after,none⟩::⟨some d2,.load e (.tmp p2),ty2,pos2,after2,none⟩::l) O G:=EK hu ti h hy (fP ti hp2 k hs) hsz
def bu{x:α}{y:β}{p v:Nat}{ty:TypeId}(ti:TI E.P U sz bytes agg z)(hset:eD r off q set)(h:(cn G p,cn G v)=(some (K (M b off)),some (tD q y)))(k:RG E ops ah l (Z r T b (set x y)::O) G)(hsz:q.sz=sz:=by exact rfl)(hoff:Nat.ble (off+q.sz) r.sz=true:=by exact rfl):
  RG E ops ah (⟨none,.store U (.tmp p) (.tmp v),ty,pos,after,none⟩::l) (Z r T b x::O) G:=dX ti hsz hset hoff (D (vL h).1) (D (vL h).2) k
def LC(n:Nat)(ops:Array Oper)(aL j:Nat)(G:lv):Option Ty:=((ops[j]?).bind (·.dst)).bind fun gs=>uP n gs (uP n aL (cn G gs))
def Ci{aL j:Nat}{ops:Array Oper}{t:Ty}(h:LC n ops aL j G=some t): ∃gs,(ops[j]?).bind (·.dst)=some gs/\uP n gs (uP n aL (cn G gs))=some t:=by
 unfold LC at h
 cases V:(ops[j]?).bind (·.dst)with
 |none=>rw [V]at h;cases h
 |some gs=>rw [V]at h;exact⟨gs,rfl,h⟩
def ai{j:Nat}{b:Bool}(V:LC E.N.n ops aL j G=some (tD rB b))(h:b=true->cm E O G ⟨some aL,op,ty,pos,after,some (j,true)⟩ t)(k:RG E ops ah l O ((aL,nT b t)::G)):
  RG E ops ah (⟨some aL,op,ty,pos,after,some (j,true)⟩::l) O G:=by obtain⟨gs,Y,H⟩:=Ci V;exact zgt Y H h k
def b8{j:Nat}{b:Bool}(V:LC E.N.n ops aL j G=some (tD rB b))(h:(!b)=true->cm E O G ⟨some aL,op,ty,pos,after,some (j,false)⟩ t)(k:RG E ops ah l O ((aL,nT (!b) t)::G)):
  RG E ops ah (⟨some aL,op,ty,pos,after,some (j,false)⟩::l) O G:=by obtain⟨gs,Y,H⟩:=Ci V;exact zgf Y H h k
section
variable{c:Bool}
def ck{x:α}{p:Nat}(ti:TI E.P U sz bytes agg z)(hp:cn G p=some (nT c (c8 r x)))(hs:(r.sz,r.agg)=(sz,agg))(hc:c=true):
  cm E O G ⟨dst,.load U (.tmp p),ty,pos,after,g⟩ (tD r x):=jV ti (vL hs).1 (vL hs).2 (bJ hp hc)
def cq{get:α->β}{x:α}{i:Nat}{p:Nat}(hf:bF E.P T i=some (off,sz))(hq:kP r off q get)(hp:cn G p=some (c8 r x))(h0:(!(Nat.beq sz 0)&&Nat.ble (off+q.sz) r.sz)=true)(_:c=true):cm E O G ⟨dst,.fieldAddr T (.tmp p) i,ty,pos,after,g⟩ (c8 q (get x)):=vF hf hq hp h0
def dd(X:cn G x=some t)(_:c=true):cm E O G ⟨dst,.move (.tmp x),ty,pos,after,g⟩ t:=lz X
def sO(X:cn G x=some (nT c t))(hc:c=true):cm E O G ⟨dst,.move (.tmp x),ty,pos,after,g⟩ t:=ca (bJ X hc)
def m2(hu:E.P.underlying st=some (.slice e))(X:cn G x=some (nT c (tD (gE r) xs)))(hc:c=true):
  cm E O G ⟨dst,.call ⟨.builtin .len,#[.tmp x],#[st]⟩,ty,pos,after,g⟩ (tD (rI .i64) (xs.length:Int)):=lS hu (bJ X hc)
def y3{b:Bool}(X:cn G x=some (nT c (tD rB b)))(hc:c=true):cm E O G ⟨dst,.unOp .not xt (.tmp x),ty,pos,after,g⟩ (tD rB (!b)):=gg (bJ X hc)
end
def aX(h:uP E.N.n aL (cn G x)=some t)(k:CG E ah y O ((aL,t)::G)):RG E ops (Exit.then (y.wpIn (fw E.r) 0 E.P ah) ah) [⟨some aL,.assign (.tmp x),ty,pos,after,none⟩] O G:=gB h (bt k)
def co(h:AT E ah .ret O G):RG E ops (Exit.then (Code.ret.wpIn (fw E.r) 0 E.P ah) ah) [] O G:=bt (qD h)
def bk(h:uP E.N.n aL (cn G x)=some t)(k:AT E ah .ret O ((aL,t)::G)):RG E ops (Exit.then (Code.ret.wpIn (fw E.r) 0 E.P ah) ah) [⟨some aL,.assign (.tmp x),ty,pos,after,none⟩] O G:=gB h (co k)
def bp{id:Nat}{z:Code}(h:RG E l.toArray (Exit.then (y.wpIn (fw E.r) 0 E.P (Exit.then (z.wpIn (fw E.r) 0 E.P ah) ah)) (Exit.then (z.wpIn (fw E.r) 0 E.P ah) ah)) l O G):CG E ah (.seq (.seq (.region id l.toArray false) y) z) O G:=aS (be h)
def ay{id:Nat}(h:uP E.N.n aL (cn G x)=some t)(k:RG E ((⟨some aL,.move (.tmp x),ty,pos,after,none⟩::l).toArray) (Exit.then (y.wpIn (fw E.r) 0 E.P ah) ah) l O ((aL,t)::G)):
  CG E ah (.seq (.region id (⟨some aL,.move (.tmp x),ty,pos,after,none⟩::l).toArray false) y) O G:=be (aQ h k)
def iI{α β:Type _}{a:Option α}{f:α->Option β}{R:β}{xs:List Operand}{u:α->Ty}(h:a.bind f=some R)(hc:ak E.P fid=true)(hs: ∀{y},a=some y->dV E.P fid ts (u y))(X:j4 E.N G xs ts)(k: ∀y,f y=some R->RG E ops ah l O ((aL,u y)::G))(hd:Nat.blt aL E.N.n=true:=by exact rfl):RG E ops ah (⟨some aL,.call ⟨.value (.func fid),xs.toArray,ats⟩,ty,pos,after,none⟩::l) O G:=
 bK h fun y hy h=>tn (dx hc (hs hy) X) hd (k y h)
def sN{α β:Type _}{γ:Type}{a:Option α}{f:α->Option β}{R:β}{r:Rp γ}{zs:α->List γ}{xs:List Operand}(h:a.bind f=some R)(hc:ak E.P fid=true)(hs: ∀{y},a=some y->iX E.P fid ts false r T (zs y))(X:j4 E.N G xs ts)(k: ∀y,f y=some R-> ∀b cap,RG E ops ah l (de r T b cap (zs y)::O) ((aL,K (au b cap (zs y).length))::G))(hd:Nat.blt aL E.N.n=true:=by exact rfl):
  RG E ops ah (⟨some aL,.call ⟨.value (.func fid),xs.toArray,ats⟩,ty,pos,after,none⟩::l) O G:=bK h fun y hy h=>QV hc (hs hy) X hd (k y h)
def eu{e:α}{i a id:Nat}(X:xs.drop i=e::tl)(hN:xs.length<=maxLen)(h:uP E.N.n aL (cn G a)=some (tD (rI .i64) (i:Int)))(k:AT E ah .normal O ((d2,tD (rI .i64) ((i+1:Nat):Int))::(aL,tD (rI .i64) ((i+1:Nat):Int))::G))(H:uP E.N.n d2 (cn ((aL,tD (rI .i64) ((i+1:Nat):Int))::G) b)=some (tD (rI .i64) ((i+1:Nat):Int)):=by exact rfl):
  AT E (Exit.inBlock id (Exit.then ((Code.region id' [⟨some aL,.binOp .add xt (.tmp a) (.const (.int .i64 1)) yt,ty,pos,after,none⟩,⟨some d2,.move (.tmp b),ty2,pos2,after2,none⟩].toArray false).wpIn (fw E.r) 0 E.P ah) ah)) .normal O G:=
 aE<|aG<|av<|zo (dm h).1 (zin (TA X hN) (dm h).2)<|aQ H<|aU k
def Wb{e:α}{i a b2 d3 id:Nat}{ty3:TypeId}{pos3:String}{after3:Array Edge}(X:xs.drop i=e::tl)(hN:xs.length<=maxLen)(h:uP E.N.n aL (cn G a)=some (tD (rI .i64) (i:Int)))(k:AT E ah .normal O ((d3,tD (rI .i64) ((i+1:Nat):Int))::(d2,tD (rI .i64) ((i+1:Nat):Int))::(aL,tD (rI .i64) (i:Int))::G))(Y:uP E.N.n d2 (cn ((aL,tD (rI .i64) (i:Int))::G) b)=some (tD (rI .i64) (i:Int)):=by exact rfl)(H:uP E.N.n d3 (cn ((d2,tD (rI .i64) ((i+1:Nat):Int))::(aL,tD (rI .i64) (i:Int))::G) b2)=some (tD (rI .i64) ((i+1:Nat):Int)):=by exact rfl):
  AT E (Exit.inBlock id (Exit.then ((Code.region id' [⟨some aL,.move (.tmp a),ty,pos,after,none⟩,⟨some d2,.binOp .add xt (.tmp b) (.const (.int .i64 1)) yt,ty2,pos2,after2,none⟩,⟨some d3,.assign (.tmp b2),ty3,pos3,after3,none⟩].toArray false).wpIn (fw E.r) 0 E.P ah) ah)) .normal O G:=
 aE<|aG<|av<|aQ h<|zo (dm Y).1 (zin (TA X hN) (dm Y).2)<|gB H<|aU k
section
variable{e:α}{i a p q1 q2 d3 d4 id:Nat}{ty3 ty4 u:TypeId}{pos3 pos4:String}{after3 after4:Array Edge}{z w:Code}
end
end
section
variable{l:List Oper}{ty:TypeId}
def iJ(r:Rp α)(k:RG E ops ah l O ((aL,tD (gE r) [])::G))(hd:Nat.blt aL E.N.n=true:=by exact rfl):RG E ops ah (⟨some aL,.assign (.const (.slice none 0 0)),ty,pos,after,none⟩::l) O G:=zo hd (b9 RY) k
def di{β:Type _}{hx h1:Option β}{r:β}{x:Code}{b:Bool}(h:(if b=true then hx else h1)=some r)(W:cn G c=some (tD rB b))(X:hx=some r->CG E ah x O G)(hy:h1=some r->CG E ah y O G):
  RG E ops (Exit.then ((Code.cond (.tmp c) x y).wpIn (fw E.r) 0 E.P ah) ah) [] O G:=bt (iY h W X hy)
def fJ{id:Nat}{tV:Act->World->Prop}(h:AT E ah .ret O G):AT E (Exit.inBlock id (Exit.then tV ah)) .ret O G:=Oq (aF h)
def gm{n:Int}(k:AT E ah .ret O ((aL,tD (rI j) n)::G))(hd:Nat.blt aL E.N.n=true:=by exact rfl):RG E ops (Exit.then (Code.ret.wpIn (fw E.r) 0 E.P ah) ah) [⟨some aL,.assign (.const (.int j n)),ty,pos,after,none⟩] O G:=zo hd zai (co k)
def fb{f:FuncId}{c:Code}{N:Nat}(hf:P.funcs[f]? =some fn)(W:(fn.body,fn.ntmps,Nat.ble ts.length fn.ntmps)=(some c,N,true))(h: ∀{w0 S0},CG ⟨P,⟨N,[]⟩,sJ,w0,S0,none⟩ (bodyPost P fn (I2 ⟨P,⟨N,[]⟩,sJ,w0,S0,none⟩ t)) c [] (xL 0 ts)):dV P f ts t:=by
 obtain⟨Y,H⟩:=vL W
 obtain⟨H,s⟩:=vL H
 subst H
 exact dV.of hf Y rfl s fun _ _=>h
section
variable{i:Nat}
def Wc{G:lv}{k:Nat}:cn ((k,t)::G) k=some t:=by simp [cn]
def hT(h:ts[i]? =some u)(hu:cn G x=some u)(W:([(⟨x,u,none⟩:Nd)].all (ot l ⟨dst,.move (.tmp x),ty,pos,after,g⟩ i)&&ef i ⟨dst,.move (.tmp x),ty,pos,after,g⟩&&g.isNone)=true:=by exact rfl):
  ∃(needs:List Nd) (t:Ty),ts[i]? =some t/\q6 G ts needs/\(needs.all (ot l ⟨dst,.move (.tmp x),ty,pos,after,g⟩ i))=true/\ef i ⟨dst,.move (.tmp x),ty,pos,after,g⟩=true/\cj E O l.toArray (je needs) ⟨dst,.move (.tmp x),ty,pos,after,g⟩ t:=
 JA x h hu (lz Wc) W
def tY{v:α}(j:Nat)(ti:TI E.P U sz bytes agg z)(h:ts[i]? =some (tD r v))(hu:ts[j]? =some (c8 r v))(hs:(r.sz,r.agg)=(sz,agg):=by exact rfl)(W:([(⟨x,c8 r v,some j⟩:Nd)].all (ot l ⟨dst,.load U (.tmp x),ty,pos,after,g⟩ i)&&ef i ⟨dst,.load U (.tmp x),ty,pos,after,g⟩&&g.isNone)=true:=by exact rfl):
  ∃(needs:List Nd) (t:Ty),ts[i]? =some t/\q6 G ts needs/\(needs.all (ot l ⟨dst,.load U (.tmp x),ty,pos,after,g⟩ i))=true/\ef i ⟨dst,.load U (.tmp x),ty,pos,after,g⟩=true/\cj E O l.toArray (je needs) ⟨dst,.load U (.tmp x),ty,pos,after,g⟩ t:=
 fW x j h hu (Cf ti Wc hs) W
end
end
end Go.Proofs.YtdohlidddcgfjaaGreat

