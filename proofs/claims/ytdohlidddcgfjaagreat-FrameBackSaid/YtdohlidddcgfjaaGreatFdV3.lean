/- bT of this claim: W33, W34, W35, W36, W37, W38, W39, W40, W48, W50, W51, W41, W42, W43, W21, W27, W45, W46, W47, W52, W53, W56, W57, W64. -/
import Derived.Test.YtdohlidddcgfjaaGreatFdV2
import Derived.Lib.Bytealg
import Derived.Maps.Range
import Derived.Laws.IdiomRangeMap
import Derived.Test.YtdohlidddcgfjaaGreatFdV1
import Derived.Laws.BytesString
import Derived.Below
import Derived.ProofKit
import Derived.OpenShut
import Derived.LaidMore
import Derived.Laws.Externs
set_option linter.all false
namespace Go.Proofs.YtdohlidddcgfjaaGreat
open Go

def xl(N:Nat):List Nat->List Oper->Bool
 |_,[]=>true
 |seen,o::rest=>match o.dst with
  |some h3=>Nat.blt h3 N&& !(seen.any (Nat.beq h3))&&xl N (h3::seen) rest
  |none=>xl N seen rest
variable{N:Fr}{β:Type}{h3:Nat}{j:IntKind}{o:Oper}{p:Operand}{q:Rp β}
def Cz{N:Nat}(l:List Oper): ∀(seen:List Nat),xl N seen l=true->
  (∀o:Oper,o∈l-> ∀h3,o.dst=some h3->h3<N/\h3∉seen)/\ ∀(i j:Nat) (o p:Oper) (h3:Nat),l[i]? =some o->l[j]? =some p->o.dst=some h3->p.dst=some h3->i=j:=by
 induction l with
 |nil=>exact fun _ _=>⟨fun _ h=>(by cases h),fun _ _ _ _ _ h=>(by simp at h)⟩
 |cons o l ih=>
  intro seen h
  unfold xl at h
  cases hd:o.dst with
  |none=>
   rw [hd]at h
   obtain⟨Y,X⟩:=ih seen h
   refine⟨fun q hq h3 hqd=>?_,fun i j p q h3 hi hj hp hq=>?_⟩
   ·rcases jf.1 hq with rfl|hq
    ·rw [hd]at hqd;cases hqd
    ·exact Y q hq h3 hqd
   ·cases i with
    |zero=>simp at hi;subst hi;rw [hd]at hp;cases hp
    |succ i=>
     cases j with
     |zero=>simp at hj;subst hj;rw [hd]at hq;cases hq
     |succ j=>rw [X i j p q h3 (by simpa using hi) (by simpa using hj) hp hq]
  |some d0=>
   rw [hd]at h
   simp only [lq,uG,CW]at h
   obtain⟨⟨g1,g2⟩,g3⟩:=h
   obtain⟨Y,X⟩:=ih (d0::seen) g3
   have hns:d0∉seen:=fun hm=>by
    have:seen.any (Nat.beq d0)=true:=DC.2 ⟨d0,hm,Nat.beq_refl d0⟩
    rw [this]at g2;cases g2
   refine⟨fun q hq h3 hqd=>?_,fun i j p q h3 hi hj hp hq=>?_⟩
   ·rcases jf.1 hq with rfl|hq
    ·rw [hd]at hqd;cases hqd;exact⟨g1,hns⟩
    ·obtain⟨k1,k2⟩:=Y q hq h3 hqd
     exact⟨k1,fun hm=>k2 (pp _ hm)⟩
   ·cases i with
    |zero=>
     cases j with
     |zero=>rfl
     |succ j=>
      simp at hi;subst hi
      rw [hd]at hp;cases hp
      exact absurd (nA ..) (Y q (s5 (by simpa using hj)) d0 hq).2
    |succ i=>
     cases j with
     |zero=>
      simp at hj;subst hj
      rw [hd]at hq;cases hq
      exact absurd (nA ..) (Y p (s5 (by simpa using hi)) d0 hp).2
     |succ j=>rw [X i j p q h3 (by simpa using hi) (by simpa using hj) hp hq]
def JZ:List Oper->List Ty->mb->mb
 |o::l,t::ts,G=>match o.dst with
  |some h3=>(h3,t)::JZ l ts G
  |none=>JZ l ts G
 |_,_,G=>G
variable{G:mb}{e:TypeId}{k:IntKind}{t:TypeId}{ts:List Ty}{u:Ty}
def GQ(l:List Oper): ∀(ts:List Ty) (k:Nat) (t:Ty),ts.length=l.length->cu (JZ l ts G) k=some t->
  (∃(j:Nat) (o:Oper),l[j]? =some o/\o.dst=some k/\ts[j]? =some t)\/(cu G k=some t/\ ∀o:Oper,o∈l->o.dst≠some k):=by
 induction l with
 |nil=>
  intro ts k t hl h
  have:ts=[]:=rN (by simpa using hl)
  subst this
  exact .inr ⟨h,fun _ h=>(by cases h)⟩
 |cons o l ih=>
  intro ts k t hl h
  cases ts with
  |nil=>simp at hl
  |cons u ts=>
   unfold JZ at h
   have hl' :ts.length=l.length:=by simpa using hl
   have lift:((∃(j:Nat) (p:Oper),l[j]? =some p/\p.dst=some k/\ts[j]? =some t)\/(cu G k=some t/\ ∀p:Oper,p∈l->p.dst≠some k))->o.dst≠some k->
     (∃(j:Nat) (p:Oper),(o::l)[j]? =some p/\p.dst=some k/\(u::ts)[j]? =some t)\/(cu G k=some t/\ ∀p:Oper,p∈o::l->p.dst≠some k):=by
    rintro(⟨j,p,Y,X,d⟩|⟨Y,X⟩) hne
    ·exact .inl ⟨j+1,p,by simpa using Y,X,by simpa using d⟩
    ·exact .inr ⟨Y,fun p hp=>(jf.1 hp).elim (fun e=>by subst e;exact hne) (X p)⟩
   cases hd:o.dst with
   |none=>
    rw [hd]at h
    exact lift (ih ts k t hl' h) (by rw [hd];exact fun e=>by cases e)
   |some h3=>
    rw [hd]at h
    simp only at h
    unfold cu at h
    by_cases K:Nat.beq h3 k=true
    ·rw [K]at h
     have:=pj K
     subst this
     have e:u=t:=by simpa using h
     subst e
     exact .inl ⟨0,o,rfl,hd,rfl⟩
    ·rw [Ah]at K
     rw [K]at h
     refine lift (ih ts k t hl' h) ?_
     rw [hd]
     intro e
     have:h3=k:=qp e
     subst this
     simp at K
abbrev TS:=List Nat×(List OI->Ty)
def TS.at(p:TS)(σ:Nat->OI):Ty:=p.2 (p.1.map σ)
def tc(t:Ty):TS:=([],fun _=>t)
def QN(Ss:List ((Nat->OI)->List OE))(c:Nat)(σ:Nat->OI):List OE:=match Ss[c]? with|some f=>f σ|none=>[]
structure NS where
 slot:Nat
 ty:(Nat->OI)->Ty
 src:Option Nat
def NS.at(n:NS)(σ:Nat->OI):Nd:=⟨n.slot,n.ty σ,n.src⟩
def VT(G:mb)(ts:List TS)(n:NS):Prop:=
 match n.src with
 |some j=> ∀σ,(ts[j]?).map (fun p=>p.at σ)=some (n.ty σ)
 |none=> ∀σ,cu G n.slot=some (n.ty σ)
def wS(G:mb)(ts:List TS):List NS->Prop
 |[]=>True
 |n::l=>VT G ts n/\wS G ts l
variable{n:Nat}
def wS.mem{ts:List TS}: ∀{l:List NS},wS G ts l-> ∀n∈l,VT G ts n
 |_::_,⟨h,_⟩,_,.head _=>h
 |_::_,⟨_,h⟩,_,.tail _ hm=>wS.mem h _ hm
def wN(l:List NS)(σ:Nat->OI):mb:=jG (l.map (·.at σ))
def TA(ts:List TS)(σ:Nat->OI):List Ty:=ts.map fun p=>p.at σ
def Ql(L:List Oper)(es:List Bool)(i:Nat)(p:TS):Bool:=p.1.all fun k=>(es[k]?).getD false&&(Nat.beq k i||nK L L.length i k)
def WT(L:List Oper)(es:List Bool)(i lo hi:Nat):Bool:=
 Nat.ble lo (hD es es.length)&&(List.range es.length).all fun k=> !((es[k]?).getD false)||((Nat.ble lo (hD es k)||nK L L.length i k)&&(Nat.blt (hD es k) hi||nK L L.length k i))
def DS(E:En)(G:mb)(L:List Oper)(ts:List TS)(Ss:List ((Nat->OI)->List OE))(es0:List Bool):Nat->Nat->List Oper->List Bool->Prop
 |_,_,[],_=>True
 |i,c,o::rest,false::es=>(∃(needs:List NS) (t:TS) (lo hi:Nat),ts[i]? =some t/\wS G ts needs/\(needs.all fun n=>pm L o i (n.at fun _=>jK))=true/\eE i o=true/\Ql L es0 i t=true/\WT L es0 i lo hi=true/\o.dst.isSome=true/\
   ∀c σ,lo<=c->c<=hi->ci E (QN Ss c σ) L.toArray (wN needs σ) o (t.at σ))/\DS E G L ts Ss es0 (i+1) c rest es
 |i,c,o::rest,true::es=>(∃(needs:List NS) (t:TS),ts[i]? =some t/\wS G ts needs/\(needs.all fun n=>pm L o i (n.at fun _=>jK))=true/\eE i o=true/\Ql L es0 i t=true/\
   ∀σ,kU E L.toArray (QN Ss c σ) (wN needs σ) o (fun x=>QN Ss (c+1) (Lz σ i x)) (fun x=>t.at (Lz σ i x)))/\DS E G L ts Ss es0 (i+1) (c+1) rest es
 |_,_,_::_,[]=>False
variable{E:En}{L:List Oper}{Ss:List ((Nat->OI)->List OE)}{c:Nat}{es:List Bool}{lo:Int}{α:Type}{r:Rp α}{x:Nat}{σ:Nat->OI}
def DS.get{ts:List TS}{es0:List Bool}: ∀(r:List Oper) (es:List Bool) (k c:Nat),DS E G L ts Ss es0 k c r es-> ∀(j:Nat) (o:Oper),r[j]? =some o->
    ∃e,es[j]? =some e/\ ∃(needs:List NS) (t:TS),ts[k+j]? =some t/\wS G ts needs/\(needs.all fun n=>pm L o (k+j) (n.at fun _=>jK))=true/\eE (k+j) o=true/\Ql L es0 (k+j) t=true/\
      (match e with
       |false=>o.dst.isSome=true/\ ∃lo hi,WT L es0 (k+j) lo hi=true/\ ∀c σ,lo<=c->c<=hi->ci E (QN Ss c σ) L.toArray (wN needs σ) o (t.at σ)
       |true=> ∀σ,kU E L.toArray (QN Ss (c+hD es j) σ) (wN needs σ) o (fun x=>QN Ss (c+hD es j+1) (Lz σ (k+j) x)) (fun x=>t.at (Lz σ (k+j) x))):=by
  intro r
  induction r with
  |nil=>intro es k c _ j o h;simp at h
  |cons p r ih=>
    intro es k c h j o ho
    cases es with
    |nil=>exact h.elim
    |cons e es=>
      cases e with
      |false=>
        obtain⟨⟨needs,t,lo,hi,g1,g2,g3,g4,g5,g6,g7,g8⟩,X⟩:=h
        cases j with
        |zero=>
          simp at ho;subst ho
          exact⟨false,rfl,needs,t,g1,g2,g3,g4,g5,g7,lo,hi,g6,g8⟩
        |succ j=>
          obtain⟨e',g1,g2⟩:=ih es (k+1) _ X j o (by simpa using ho)
          refine⟨e',by simpa using g1,?_⟩
          rw [show k+1+j=k+(j+1)from by omega]at g2
          have e1:c+hD (false::es) (j+1)=c+hD es j:=by simp [hD]
          rw [e1];exact g2
      |true=>
        obtain⟨Y,X⟩:=h
        cases j with
        |zero=>
          simp at ho;subst ho
          exact⟨true,rfl,Y⟩
        |succ j=>
          obtain⟨e',g1,g2⟩:=ih es (k+1) _ X j o (by simpa using ho)
          refine⟨e',by simpa using g1,?_⟩
          rw [show k+1+j=k+(j+1)from by omega]at g2
          have e1:c+hD (true::es) (j+1)=c+1+hD es j:=by simp [hD];omega
          rw [e1];exact g2
structure WE(E:En)(G:mb)(l:List Oper)(ts:List TS)(Ss:List ((Nat->OI)->List OE))(es:List Bool)(done:Array Bool)(a:Act)(w:World)(S:SH)(σ:Nat->OI)(c:Nat):Prop where
 ext:kh E.B E.w0 E.S0 w S
 sat:mt w S
 own:er E.base E.B w S (QN Ss c σ)
 size:a.tmps.size=E.N.n
 defers:a.defers=E.N.ds
 dsz:done.size=l.length
 down: ∀j o,l[j]? =some o->done.getD j false=true-> ∀e∈o.after,Region.binds .any e=true->done.getD e.on false=true
 old: ∀k t,cu G k=some t->(∀j o,l[j]? =some o->done.getD j false=true->o.dst≠some k)->t.p S (a.tmps.getD k undef)
 new: ∀j o h3 p,l[j]? =some o->done.getD j false=true->o.dst=some h3->ts[j]? =some p->(p.at σ).p S (a.tmps.getD h3 undef)
 deps: ∀j p,done.getD j false=true->ts[j]? =some p-> ∀k∈p.1,done.getD k false=true
 chain: ∀k,es[k]? =some true->(done.getD k false=true↔hD es k<c)
variable{A h2:Type}{S S' :SH}{a:Act}{b:Nat}{done:Array Bool}{ρ:Type}{f:h2->A->Option (ρ×h2)}{κ:Type}{m:List (κ×β)}{v:Value}{w w' :World}
section
variable{ts:List TS}
def WE.need(h:WE E G L ts Ss es done a w S σ c){i:Nat}(hi:L[i]? =some o)(hun:done.getD i true=false)(hwait: ∀e∈o.after,Region.binds .any e=true->done.getD e.on false=true){needs:List NS}(Y:wS G ts needs)(X:(needs.all fun n=>pm L o i (n.at fun _=>jK))=true):bT E.N S a (wN needs σ):=by
 have hlt:i<done.size:=by rw [h.dsz];exact(sf.1 hi).1
 have hun' :done.getD i false=false:=by
  simp [hlt]at hun ⊢;exact hun
 refine⟨h.size,h.defers,?_⟩
 have key: ∀n∈needs,(n.ty σ).p S (a.tmps.getD n.slot undef):=by
  intro n hn
  have hs:=kQ.1 X n hn
  have ho:=Y.mem n hn
  unfold pm NS.at at hs
  unfold VT at ho
  cases hsrc:n.src with
  |some j=>
   rw [hsrc]at hs ho
   simp only [lq]at hs
   obtain⟨hs1,hs2⟩:=hs
   cases hj:L[j]? with
   |none=>rw [hj]at hs1;cases hs1
   |some p=>
    rw [hj]at hs1
    cases hd:p.dst with
    |none=>simp only [hd]at hs1;cases hs1
    |some h3=>
     simp only [hd]at hs1
     have hd' :=pj hs1
     subst hd'
     have hdone:done.getD j false=true:=by
      unfold Cw at hs2
      obtain⟨e,he0,K⟩:=DC.1 hs2
      have he:e∈o.after:=by simpa using he0
      simp only [lq]at K
      have:=hwait e he K.2
      rwa [pj K.1]at this
     have hm:=ho σ
     cases hf:ts[j]? with
     |none=>rw [hf]at hm;simp at hm
     |some f=>
      rw [hf]at hm
      have e:f.at σ=n.ty σ:=by simpa using hm
      rw [<-e]
      exact h.new j p n.slot f hj hdone hd hf
  |none=>
   rw [hsrc]at hs ho
   refine h.old _ _ (ho σ) fun j p hj hdone hd=>?_
   have:=kQ.1 hs p (s5 hj)
   simp only [hd,Nat.beq_refl,sm,uH]at this
   unfold Cw at this
   obtain⟨e,he0,K⟩:=DC.1 this
   have he:e∈p.after:=by simpa using he0
   simp only [lq]at K
   have d:=h.down j p hj hdone e he K.2
   rw [pj K.1]at d
   rw [d]at hun'
   cases hun'
 clear Y X
 intro k t hk
 unfold wN at hk
 induction needs with
 |nil=>simp [jG,cu]at hk
 |cons n needs ih=>
  simp only [DE]at hk
  unfold jG cu at hk
  by_cases K:Nat.beq n.slot k=true
  ·have hb' :Nat.beq (n.at σ).slot k=true:=K
   rw [hb']at hk
   have:=pj K
   subst this
   have h9:some (n.at σ).ty=some t:=by simpa using hk
   have e:n.ty σ=t:=qp h9
   rw [<-e]
   exact key n (nA ..)
  ·rw [Ah]at K
   have hb' :Nat.beq (n.at σ).slot k=false:=K
   rw [hb']at hk
   exact ih (fun m hm=>key m (pp _ hm)) hk
def WE.step{σ' :Nat->OI}{c' :Nat}(h:WE E G L ts Ss es done a w S σ c){i:Nat}{p0:TS}{C:Nat->Prop}(hi:L[i]? =some o)(hdN: ∀h3,o.dst=some h3->h3<E.N.n)(hs2: ∀h3,o.dst=some h3-> ∀j p,L[j]? =some p->done.getD j false=true->p.dst=some h3->i=j)(hwait: ∀e∈o.after,Region.binds .any e=true->done.getD e.on false=true)(D:ts[i]? =some p0)(hun:done.getD i true=false)(hdep: ∀k∈p0.1,k=i\/done.getD k false=true)(hext:kh C w S w' S')(hC: ∀b,C b->E.base<=b\/E.B b)(hsat:mt w' S')(hown:er E.base E.B w' S' (QN Ss c' σ'))(hσ: ∀k,k≠i->σ' k=σ k)(hv:(p0.at σ').p S' v)(hch: ∀k,es[k]? =some true->((done.setIfInBounds i true).getD k false=true↔hD es k<c')):
  WE E G L ts Ss es (done.setIfInBounds i true) (a.put o.dst v) w' S' σ' c' :=by
 have hlt:i<done.size:=by rw [h.dsz];exact(sf.1 hi).1
 have hset: ∀j,(done.setIfInBounds i true).getD j false=true->j=i\/done.getD j false=true:=fun j hj=>by
  by_cases hij:i=j
  ·exact .inl hij.symm
  ·rw [wG false hij]at hj;exact .inr hj
 have hseti:(done.setIfInBounds i true).getD i false=true:=by simp [hlt]
 have hun' :done.getD i false=false:=by simp [hlt]at hun ⊢;exact hun
 have hput: ∀k,(∀h3,o.dst=some h3->h3≠k)->(a.put o.dst v).tmps.getD k undef=a.tmps.getD k undef:=fun k hk=>by
  cases hd:o.dst with
  |none=>rfl
  |some h3=>
   have hda:h3<a.tmps.size:=by rw [h.size];exact hdN h3 hd
   rw [uh hda,aR (hk h3 hd)]
 refine⟨h.ext.step hext hC,hsat,hown,?_,?_,by simp [h.dsz],fun j p hj hdone e he K=>?_,fun k u hk hno=>?_,fun j p d' u hj hdone hd' hu=>?_,fun j u hj hu k hk=>?_,hch⟩
 ·cases o.dst with
  |none=>exact h.size
  |some h3=>simp [Act.put,h.size]
 ·cases o.dst with
  |none=>exact h.defers
  |some h3=>exact h.defers
 ·rcases hset j hdone with rfl|hj'
  ·rw [hi]at hj
   have:o=p:=by simpa using hj
   subst this
   exact yR (hwait e he K)
  ·exact yR (h.down j p hj hj' e he K)
 ·rw [hput k fun h3 hd e=>hno i o hi hseti (by rw [hd,e])]
  exact u.mono hext.keep (h.old k u hk fun j p hj hdone=>hno j p hj (yR hdone))
 ·by_cases hij:j=i
  ·subst hij
   rw [hi]at hj
   have:o=p:=by simpa using hj
   subst this
   have hda:d' <a.tmps.size:=by rw [h.size];exact hdN d' hd'
   rw [hd',uh hda,bh rfl]
   rw [D]at hu
   have:p0=u:=by simpa using hu
   subst this
   exact hv
  ·have hj' :=(hset j hdone).resolve_left hij
   rw [hput d' fun h3 hd e=>by subst e;exact hij (hs2 h3 hd j p hj hj' hd').symm]
   have e1:u.at σ' =u.at σ:=congrArg u.2 (F9 fun k hk=>hσ k fun e=>by
     subst e
     rw [h.deps j u hj' hu k hk]at hun';cases hun')
   rw [e1]
   exact Ty.mono _ hext.keep (h.new j p d' u hj hj' hd' hu)
 ·rcases hset j hj with rfl|hj'
  ·rw [D]at hu
   have:p0=u:=by simpa using hu
   subst this
   rcases hdep k hk with rfl|h'
   ·exact hseti
   ·exact yR h'
  ·exact yR (h.deps j u hj' hu k hk)
end
variable{bx:Exit->Act->World->Prop}
def Jt{l t:List Oper}{ts:List TS}(hsl:xl E.N.n [] l=true)(hlen:ts.length=l.length)(hesl:es.length=l.length)(hd:DS E G (l++t) ts Ss es 0 0 l es)(hch:M2 (l++t) es=true)(D:y5 (l++t) l.length t.length=true)(hQ: ∀a w S σ,St E (QN Ss (hD es es.length) σ) (JZ l (TA ts σ) G) a w S->wpListIn (fw E.r) 0 E.P (l++t).toArray bx t a w):
  ∀(fuel:Nat) (done:Array Bool) (a:Act) (w:World) (S:SH) (σ:Nat->OI) (c:Nat),lR done=fuel->(∀j,l.length<=j->done.getD j false=false)->c<=hD es es.length->WE E G (l++t) ts Ss es done a w S σ c->wpAnyIn (fw E.r) 0 E.P .any (l++t).toArray bx fuel done a w:=by
 have hL1: ∀i o,i<l.length->(l++t)[i]? =some o->l[i]? =some o:=fun i o hi h=>by rwa [Al hi]at h
 have hL2: ∀i o,l[i]? =some o->(l++t)[i]? =some o:=fun i o h=>by rw [Al (sf.1 h).1];exact h
 have htail: ∀m o,l.length<=m->(l++t)[m]? =some o->wu (l++t) m=true/\eE m o=true:=fun m o hm ho=>by
  have hml:m<(l++t).length:=(sf.1 ho).1
  rw [kw]at hml
  unfold y5 at D
  have:=kQ.1 D (m-l.length) (by simp;omega)
  rw [show l.length+(m-l.length)=m from by omega,ho]at this
  simp only [lq]at this
  exact⟨this.1,this.2.1⟩
 have hget:=fun i o (hi:l[i]? =some o)=>DS.get l es 0 0 hd i o hi
 have hedge: ∀i o,(l++t)[i]? =some o->eE i o=true:=fun i o hi=>by
  rcases nS i l.length with h|h
  ·obtain⟨_,_,_,_,_,_,_,h,_⟩:=hget i o (hL1 i o h hi)
   simpa using h
  ·exact(htail i o h hi).2
 obtain⟨hs1,hs2⟩:=Cz l [] hsl
 have fin: ∀fuel done a w S σ c,lR done=fuel->(∀j,l.length<=j->done.getD j false=false)->c<=hD es es.length->WE E G (l++t) ts Ss es done a w S σ c->(∀i,i<l.length->done.getD i false=true)->wpAnyIn (fw E.r) 0 E.P .any (l++t).toArray bx fuel done a w:=by
  intro fuel done a w S σ c hu hfree hcle h hall
  have hcc:c=hD es es.length:=by
   rcases nS c (hD es es.length)with hlt|hge
   ·obtain⟨i,Y,X,d⟩:=wz hlt
    have:=(h.chain i X).1 (hall i (by omega))
    omega
   ·omega
  subst hcc
  refine zw (n:=l.length) (fun m o hm ho=>(htail m o hm ho).1) hedge t l.length done fuel a w (eg _) (by simp) h.dsz (fun j hj=>⟨fun hjd=>?_,fun hlt=>hall j hlt⟩) hu
   (hQ a w S σ ⟨h.ext,h.sat,h.own,h.size,h.defers,fun j u hj=>?_⟩)
  ·rcases nS j l.length with h' |h'
   ·exact h'
   ·rw [hfree j h']at hjd;cases hjd
  ·rcases GQ l (TA ts σ) j u (by unfold TA;rw [F5];exact hlen) hj with⟨i,o,Y,X,d⟩|⟨Y,X⟩
   ·unfold TA at d
    rw [Jf]at d
    cases hf:ts[i]? with
    |none=>rw [hf]at d;simp at d
    |some f=>
     rw [hf]at d
     have e:f.at σ=u:=by simpa using d
     rw [<-e]
     exact h.new i o j f (hL2 i o Y) (hall i (sf.1 Y).1) X hf
   ·refine h.old j u Y fun i o ho hdn=>?_
    rcases nS i l.length with h' |h'
    ·exact X o (s5 (hL1 i o h' ho))
    ·rw [hfree i h']at hdn;cases hdn
 have lower: ∀done a w S σ c i,(∀j,l.length<=j->done.getD j false=false)->WE E G (l++t) ts Ss es done a w S σ c->i∈Region.ready .any (l++t).toArray done->l.length<=i-> ∀j,j<l.length->done.getD j false=true:=by
  intro done a w S σ c i hfree h hi hge j hj
  obtain⟨hun,p,hp,hwait⟩:=s8.1 hi
  have hp' :(l++t)[i]? =some p:=by simpa using hp
  have hcov:=(htail i p hge hp').1
  unfold wu at hcov
  have hre:=kQ.1 hcov j (by simp;omega)
  exact gA h.down _ i j (fun q hq e he K=>by
   have:q=p:=by rw [hp']at hq;simpa using hq.symm
   subst this
   exact hwait e he K) hre
 have hchain: ∀i j,j<i->es[i]? =some true->es[j]? =some true->nK (l++t) (l++t).length i j=true:=fun i j hij Y X=>by
  unfold M2 at hch
  have hil:i<es.length:=(sf.1 Y).1
  have:=kQ.1 (kQ.1 hch i (by simpa using hil)) j (by simpa using hij)
  rw [Y,X]at this
  simpa using this
 intro fuel
 induction fuel with
 |zero=>
  intro done a w S σ c hu hfree hcle h
  exact fin 0 done a w S σ c hu hfree hcle h fun i hi=>uc hu (by rw [h.dsz,kw];omega)
 |succ fuel ih=>
  intro done a w S σ c hu hfree hcle h
  by_cases hall: ∀i,i<l.length->done.getD i false=true
  ·exact fin _ done a w S σ c hu hfree hcle h hall
  have hready0: ∀m i,i<m->i<l.length->Region.ready .any (l++t).toArray done=[]->done.getD i false=true:=by
   intro m
   induction m with
   |zero=>intro i h;omega
   |succ m ihm=>
    intro i him hil hr
    have his:i<done.size:=by rw [h.dsz,kw];omega
    by_cases hdn:done.getD i true=true
    ·rw [<-oZ his];exact hdn
    ·exfalso
     obtain⟨o,ho⟩: ∃o,(l++t)[i]? =some o:=⟨l[i],hL2 i _ (tM hil)⟩
     have hmem:i∈Region.ready .any (l++t).toArray done:=by
      rw [s8]
      refine⟨by simpa using hdn,o,by simpa using ho,fun e he K=>?_⟩
      have:=hedge i o ho
      unfold eE at this
      have:=kQ.1 this e (by simpa using he)
      simp only [K,sm,uH,uG]at this
      exact ihm e.on (by omega) (by omega) hr
     rw [hr]at hmem;cases hmem
  refine⟨fun hr=>absurd (fun i hi=>hready0 (i+1) i (by omega) hi hr) hall,fun i hi=>?_⟩
  have hil:i<l.length:=by
   rcases nS i l.length with h' |h'
   ·exact h'
   ·exact absurd (lower done a w S σ c i hfree h hi h') hall
  obtain⟨hun,o,ho,hwait⟩:=s8.1 hi
  have ho' :(l++t)[i]? =some o:=by simpa using ho
  have hol:=hL1 i o hil ho'
  obtain⟨e,he,needs,u,Y,X,d,_,h4,h5⟩:=hget i o hol
  rw [uX]at Y d h4
  have hF:=h.need ho' hun hwait X d
  have his:i<done.size:=by rw [h.dsz,kw];omega
  have hun' :done.getD i false=false:=by rw [<-oZ his];exact hun
  have hu' :lR (done.setIfInBounds i true)=fuel:=by have:=q9 hun;omega
  have huq: ∀h3,o.dst=some h3-> ∀j p,(l++t)[j]? =some p->done.getD j false=true->p.dst=some h3->i=j:=fun h3 hdd j p hj hjd hpd=>by
   rcases nS j l.length with h' |h'
   ·exact hs2 i j o p h3 hol (hL1 j p h' hj) hdd hpd
   ·rw [hfree j h']at hjd;cases hjd
  have hfree' : ∀j,l.length<=j->(done.setIfInBounds i true).getD j false=false:=fun j hj=>by
   rw [wG false (by omega)];exact hfree j hj
  have hbl:E.base<=w.heap.size:=h.ext.size
  have hwaits: ∀q,(l++t)[i]? =some q-> ∀e∈q.after,Region.binds .any e=true->done.getD e.on false=true:=fun q hq e he K=>by
   have:q=o:=by rw [ho']at hq;simpa using hq.symm
   subst this
   exact hwait e he K
  have hdpp: ∀k∈u.1,k=i\/done.getD k false=true:=fun k hk=>by
   have:=kQ.1 h4 k hk
   simp only [lq,yS]at this
   rcases this.2 with K|K
   ·exact .inl (pj K)
   ·exact .inr (gA h.down _ i k hwaits K)
  have hdNN: ∀h3,o.dst=some h3->h3<E.N.n:=fun h3 hd=>(hs1 o (s5 hol) h3 hd).1
  unfold wpOpIn
  rw [ho]
  show if _ then _ else _
  cases e with
  |false=>
   simp only at h5
   obtain⟨hdS,lo,hi',hwin,h5⟩:=h5
   rw [uX]at hwin
   obtain⟨h3,hdd⟩:=Np.1 hdS
   have hdN:=(hs1 o (s5 hol) h3 hdd).1
   unfold WT at hwin
   rw [lq]at hwin
   obtain⟨hw1,hw2⟩:=hwin
   have hw1' :=rM hw1
   have hwk: ∀k,es[k]? =some true->(Nat.ble lo (hD es k)=true\/nK (l++t) (l++t).length i k=true)/\(Nat.blt (hD es k) hi' =true\/nK (l++t) (l++t).length k i=true):=fun k hk=>by
    have hkl:k<es.length:=(sf.1 hk).1
    have:=kQ.1 hw2 k (by simpa using hkl)
    rw [hk]at this
    simpa using this
   have hlo:lo<=c:=by
    rcases nS c lo with hlt|hge
    ·exfalso
     obtain⟨k,hk1,hk2,hk3⟩:=wz (es:=es) (c:=c) (k:=es.length) (by omega)
     rcases(hwk k hk2).1 with K|K
     ·have:=rM K;omega
     ·have:=(h.chain k hk2).1 (gA h.down _ i k hwaits K)
      omega
    ·exact hge
   have hhi:c<=hi' :=by
    rcases nS hi' c with hlt|hge
    ·exfalso
     obtain⟨k,hk1,hk2,hk3⟩:=wz (es:=es) (c:=hi') (k:=es.length) (by omega)
     rcases(hwk k hk2).2 with K|K
     ·simp only [uG]at K;omega
     ·have hkd:done.getD k false=true:=(h.chain k hk2).2 (by omega)
      have:=gA h.down _ k i (fun q hq e he K=>h.down k q hq hkd e he K) K
      rw [this]at hun';cases hun'
    ·exact hge
   have h6:=h5 c σ hlo hhi a w S h.sat h.own hF
   have hch' : ∀k,es[k]? =some true->((done.setIfInBounds i true).getD k false=true↔hD es k<c):=fun k hk=>by
    have hne:i≠k:=fun e=>by subst e;rw [he]at hk;cases hk
    rw [wG false hne];exact h.chain k hk
   by_cases hw:Region.wanted o (yielded (l++t).toArray a.tmps)=true
   ·rw [bh hw]at h6 ⊢
    refine lE (fun a' w' ⟨v,S',ha,V,hs,hv⟩=>?_) h6
    subst ha
    exact ih _ _ _ S' _ c hu' hfree' hcle (h.step ho' hdNN huq hwait Y hun hdpp V (fun _ K=>K.elim) hs (h.own.ext0 V) (fun _ _=>rfl) hv hch')
   ·rw [aR hw]at h6 ⊢
    exact⟨fun _ _=>trivial,ih _ _ _ S _ c hu' hfree' hcle (h.step ho' hdNN huq hwait Y hun hdpp (jn tY _ _) (fun _ K=>K.elim) h.sat h.own (fun _ _=>rfl) h6 hch')⟩
  |true=>
   simp only [uX]at h5
   -- it is the next one of the chain
   have hca:hD es i=c:=by
    have hn: ¬hD es i<c:=fun hlt=>by rw [(h.chain i he).2 hlt]at hun';cases hun'
    rcases nS c (hD es i)with hlt|hge
    ·exfalso
     obtain⟨k,hk1,hk2,hk3⟩:=wz hlt
     have hkd:done.getD k false=true:=gA h.down _ i k hwaits (hchain i k hk1 he hk2)
     have:=(h.chain k hk2).1 hkd
     omega
    ·omega
   subst hca
   have h6:=h5 σ a w S h.sat h.own hF hbl
   have hch' : ∀k,es[k]? =some true->((done.setIfInBounds i true).getD k false=true↔hD es k<hD es i+1):=fun k hk=>by
    by_cases hik:i=k
    ·subst hik
     constructor
     ·intro _;omega
     ·intro _;simp [his]
    ·rw [wG false hik,h.chain k hk]
     constructor
     ·intro h;omega
     ·intro hlt
      rcases nS i k with hlk|hlk
      ·have:=Fe hlk he;omega
      ·exact Fe (by omega) hk
   have hcle' :hD es i+1<=hD es es.length:=Fe (by omega) he
   by_cases hw:Region.wanted o (yielded (l++t).toArray a.tmps)=true
   ·rw [bh hw]at h6 ⊢
    refine lE (fun a' w' ⟨v,S',x,ha,V,hs,hown,hv⟩=>?_) h6
    subst ha
    exact ih _ _ _ S' _ _ hu' hfree' hcle' (h.step ho' hdNN huq hwait Y hun hdpp V (fun b ⟨f,hf,K⟩=>(er.mem h.own f hf).2 b K) hs hown (fun k hk=>HC σ x hk) hv hch')
   ·rw [aR hw]at h6 ⊢
    obtain⟨x,hown,hv⟩:=h6
    exact⟨fun _ _=>trivial,ih _ _ _ S _ _ hu' hfree' hcle' (h.step ho' hdNN huq hwait Y hun hdpp (jn tY _ _) (fun _ K=>K.elim) h.sat hown (fun k hk=>HC σ x hk) hv hch')⟩
variable{O:List OE}{st:TypeId}
def iT{id:Nat}(m:Nat)(ts:List TS)(es:List Bool)(Ss:List ((Nat->OI)->List OE))(hO:Ss[0]? =some fun _=>O)(hm:E.P.follows .mixedOrders=true)(hsl:xl E.N.n [] (L.take m)=true)(hlen:ts.length=(L.take m).length)(hesl:es.length=(L.take m).length)(hch:M2 L es=true)(D:y5 L (L.take m).length (L.drop m).length=true)(hd:DS E G L ts Ss es 0 0 (L.take m) es)(k: ∀σ:Nat->OI,RG E L.toArray bx (L.drop m) (QN Ss (hD es es.length) σ) (JZ (L.take m) (TA ts σ) G)):CG E bx (.region id L.toArray true) O G:=fun a w S st=>by
 have hL:L=L.take m++L.drop m:=(s6 m L).symm
 generalize L.take m=l at hL hsl hlen hesl D hd k
 generalize L.drop m=t at hL D k
 subst hL
 refine wpIn_region_any hm ?_
 obtain⟨he,hs⟩:=yl (w:=w) st.sat
 have hO0:QN Ss 0 (fun _=>jK)=O:=by unfold QN;rw [hO]
 refine Jt hsl hlen hesl hd hch D (fun a w S σ st=>k σ a w S st) _ _ _ _ S (fun _=>jK) 0 ?_ (fun j _=>?_) (pq _)
  ⟨st.ext.step0 he,hs,by rw [hO0];exact st.own.ext0 he,st.facts.size,st.facts.defers,by simp,fun j o hj hdone=>?_,fun k t hk _=>st.facts.at_ k t hk,fun j o h3 t hj hdone=>?_,fun j p hdone=>?_,fun k _=>⟨fun hdone=>?_,fun h=>(by omega)⟩⟩
 ·unfold lR;rw [Nm,Nk];simp
 ·simp [zt];split<;>rfl
 ·simp [zt]at hdone
  split at hdone<;>simp at hdone
 ·simp [zt]at hdone
  split at hdone<;>simp at hdone
 ·simp [zt]at hdone
  split at hdone<;>simp at hdone
 ·simp [zt]at hdone
  split at hdone<;>simp at hdone
def nD{p:Nat->(Nat->OI)->Prop}{lo:Nat}(h: ∀σ,p lo σ): ∀c σ,lo<=c->c<=lo->p c σ:=fun c σ Y X=>by
 have:c=lo:=by omega
 subst this;exact h σ
def C1{p:Nat->(Nat->OI)->Prop}{lo hi:Nat}(h: ∀σ,p lo σ)(k: ∀c σ,lo+1<=c->c<=hi->p c σ): ∀c σ,lo<=c->c<=hi->p c σ:=fun c σ Y X=>by
 by_cases e:c=lo
 ·subst e;exact h σ
 ·exact k c σ (by omega) X
variable{after:Array Edge}{g:Option (Nat×Bool)}{ok:α->Prop}{op:Op}{pos:String}{post:OI->List OE}
def E4{ty:TypeId}(hnd: ∀c,op≠ .defer c)(h: ∀a w S,mt w S->er E.base E.B w S O->bT E.N S a G->E.base<=w.heap.size-> ∃w' S' x,(execOp a.eval ⟨none,op,ty,pos,after,g⟩).run E.P w= .ok .skip w' /\kh (GU O) w S w' S' /\mt w' S' /\er E.base E.B w' S' (post x)):
  EffOK E O G ⟨none,op,ty,pos,after,g⟩ post (fun _=>DZ):=fun a w S hs ho hf K=>by
 obtain⟨w',S',x,Y,X,d,h4⟩:=h a w S hs ho hf K
 refine⟨hnd,?_⟩
 rw [Y]
 exact⟨undef,S',x,rfl,X,d,h4,trivial⟩

abbrev HL:=List (Nat×Value)
def A2:HL->Nat->Option Value
 |[],_=>none
 |p::hs,o=>bif Nat.beq p.1 o then some p.2 else A2 hs o
def sU: ∀{hs:HL} {o:Nat} {v:Value},A2 hs o=some v->(o,v)∈hs
 |[],_,_,h=>by cases h
 |p::hs,o,v,h=>by
  unfold A2 at h
  by_cases K:Nat.beq p.1 o=true
  ·rw [K]at h
   have e1:=pj K
   have e2:p.2=v:=qp h
   subst e1 e2
   exact nA ..
  ·rw [Ah]at K
   rw [K]at h
   exact pp _ (sU h)
def rH{α:Type}(r:Rp α)(hs:HL):Rp α where
 sz:=r.sz
 agg:=r.agg
 rc:=fun S cs x=>r.rc S cs x/\ ∀p∈hs,cs[p.1]? =some p.2
 mono:=fun h k=>⟨r.mono h k.1,k.2⟩
 len:=fun k=>r.len k.1
 one:=fun k=>r.one k.1
 sc:=r.sc
variable{cs:List Value}{off:Nat}
def eD{hs:HL}{get:α->β}(h:lC r off q get):lC (rH r hs) off q get:=fun S cs x k=>h S cs x k.1
def Qo(h:cs[off]? =some v):(cs.drop off).take 1=[v]:=by
 have hlt:=(sf.1 h).1
 rw [BE hlt,(sf.1 h).2]
 rfl
def ack{hs:HL}(h:A2 hs off=some v):lC (rH r hs) off rV (fun _=>v):=fun S cs x k=>by
 have Y:=k.2 _ (sU h)
 exact⟨Qo Y,r.one k.1 v (s5 Y)⟩
def HZ(z:List Value):HL->Prop
 |[]=>True
 |p::hs=>z[p.1]? =some p.2/\HZ z hs
variable{z:List Value}
def HZ.all: ∀{hs:HL},HZ z hs-> ∀p∈hs,z[p.1]? =some p.2
 |_::_,⟨h,_⟩,_,.head _=>h
 |_::_,⟨_,h⟩,_,.tail _ hm=>HZ.all h _ hm
def zH{x:α}{hs:HL}(h: ∀S,r.rc S z x)(k:HZ z hs): ∀S,(rH r hs).rc S z x:=fun S=>⟨h S,k.all⟩
def XG(hs:HL)(off sz:Nat):Bool:=hs.all fun p=>Nat.blt p.1 off||Nat.ble (off+sz) p.1
def YT(hs:HL)(off sz:Nat)(v:Option Value):HL->Prop
 |[]=>True
 |p::l=>((v=some p.2/\p.1=off/\sz=1)\/(A2 hs p.1=some p.2/\(Nat.blt p.1 off||Nat.ble (off+sz) p.1)=true))/\YT hs off sz v l
variable{sz:Nat}
def YT.all{hs:HL}{v:Option Value}: ∀{l:HL},YT hs off sz v l-> ∀p∈l,(v=some p.2/\p.1=off/\sz=1)\/(A2 hs p.1=some p.2/\(Nat.blt p.1 off||Nat.ble (off+sz) p.1)=true)
 |_::_,⟨h,_⟩,_,.head _=>h
 |_::_,⟨_,h⟩,_,.tail _ hm=>YT.all h _ hm
def uC{ds:List Value}{k:Nat}(hl:ds.length=sz)(hoff:off+sz<=cs.length)(h:(Nat.blt k off||Nat.ble (off+sz) k)=true):(cs.take off++ds++cs.drop (off+sz))[k]? =cs[k]? :=by
 simp only [yS,uG,Nat.ble_eq]at h
 have D:(cs.take off).length=off:=by simp;omega
 rcases h with h|h
 ·rw [Al (by simp;omega),Al (by omega),yU h]
 ·rw [wW (by simp;omega),vH]
  congr 1
  simp only [kw,D,hl];omega
def Tc{ds:List Value}(hd:ds=[v])(hoff:off+1<=cs.length):(cs.take off++ds++cs.drop (off+1))[off]? =some v:=by
 subst hd
 have D:(cs.take off).length=off:=by simp;omega
 rw [Al (by simp;omega),wW (by omega),D,wH]
 rfl
variable{set:α->β->α}{y:Code}
def n7{hs hs' :HL}{x:α}{y:β}(h:eV r off q set)(hk:YT hs off q.sz none hs')(hoff:Nat.ble (off+q.sz) r.sz=true):vw (rH r hs) (rH r hs') off q x y (set x y):=fun S cs ds Y X=>by
 refine⟨h S cs x ds y Y.1 X,fun p hp=>?_⟩
 rcases hk.all p hp with⟨e,_⟩|⟨g1,g2⟩
 ·cases e
 ·have hl:=r.len Y.1
  rw [uC (q.len X) (by have:=rM hoff;omega) g2]
  exact Y.2 _ (sU g1)
def Gv{hs:HL}(h:eV r off q set)(hk:XG hs off q.sz=true)(hoff:Nat.ble (off+q.sz) r.sz=true):eV (rH r hs) off q set:=fun S cs x ds y Y X=>by
 refine⟨h S cs x ds y Y.1 X,fun p hp=>?_⟩
 have hl:=r.len Y.1
 rw [uC (q.len X) (by have:=rM hoff;omega) (kQ.1 hk p hp)]
 exact Y.2 _ hp
variable{T U:TypeId}{hx:MV β}{agg:Bool}{bytes cap:Nat}{dst:Option Tmp}{ops:Array Oper}{rest:List Oper}{xs:List α}
section
variable{c:Code}{e:Exit}
section
variable{ty:TypeId}
def eW{t:OI->Ty}(h:EffOK E O G ⟨none,op,ty,pos,after,none⟩ post t)(k: ∀x,RG E ops bx rest (post x) G):RG E ops bx (⟨none,op,ty,pos,after,none⟩::rest) O G:= .of rfl fun a w S st=>
 oV (fun a' w' ⟨v,S',x,ha,V,hs,ho,hv⟩=>by
  subst ha
  exact k x _ _ S' ⟨st.ext.step V fun b ⟨f,hf,K⟩=>(er.mem st.own f hf).2 b K,hs,ho,st.facts.mono V.keep⟩) (h a w S st.sat st.own st.facts st.base_le)
def dj{γ:Type}{r' :Rp γ}{x:α}{x' :γ}{y:β}{v:Operand}(ti:TI E.P U sz bytes agg z)(hsz:q.sz=sz)(hset:vw r r' off q x y x')(hoff:Nat.ble (off+q.sz) r.sz=true)(hp:aJ E.N G p (Z (M b off)))(hv:aJ E.N G v (tD q y)):EffOK E (Q r T b x::O) G ⟨none,.store U p v,ty,pos,after,g⟩ (fun _=>Q r' T b x' ::O) (fun _=>DZ):=E4 (fun _ h=>(by cases h)) fun a w S hs ho hf K=>by
 have Y:a.eval p=M b off:=hp S a hf
 obtain⟨ds,X,d⟩:=hv S a hf
 obtain⟨⟨hno,cur,h5,h6⟩,_⟩:=ho.1
 have hl:=r.len h6
 have hoff' :=rM hoff
 obtain⟨w',hr,e1,e2,e3,e4,e5,e6⟩:=kc ti hsz d h5 (off:=off) (by simp at hl;omega)
 have hrun:(execOp a.eval ⟨none,.store U p v,ty,pos,after,g⟩).run E.P w= .ok .skip w' :=by
  simp [execOp,Y,X,Instr.storeAt,M,Instr.sureAddr,hr]
 obtain⟨g1,g2,g3⟩:=nl (O:=O) hs (Q r T b x) (Q r' T b x') ho (fun _=>s7) (fun _=>s7) ⟨e1,e2,e3,e4.1,e4.2⟩ e6 ⟨hno,_,e5,by simpa using hset S _ _ h6 d⟩ hno
 exact⟨w',S,jK,hrun,g1.more fun k hk=>⟨_,nA ..,hk⟩,g2,g3⟩
def lY{hs hs' :HL}{x:α}{y:β}{u:Value}{v:Operand}(ti:TI E.P U 1 bytes false z)(hsz:q.sz=1)(hag:q.agg=false)(hset:eV r off q set)(hoff:Nat.ble (off+1) r.sz=true)(hk:YT hs off 1 (some u) hs')(hp:aJ E.N G p (Z (M b off)))(hv:aJ E.N G v (tD q y))(hu:aJ E.N G v (Z u)):EffOK E (Q (rH r hs) T b x::O) G ⟨none,.store U p v,ty,pos,after,g⟩ (fun _=>Q (rH r hs') T b (set x y)::O) (fun _=>DZ):=E4 (fun _ h=>(by cases h)) fun a w S hsat ho hf K=>by
 have Y:a.eval p=M b off:=hp S a hf
 obtain⟨ds,X,d⟩:=hv S a hf
 have hu' :a.eval v=u:=hu S a hf
 obtain⟨⟨hno,cur,h5,h6⟩,_⟩:=ho.1
 have hl:=r.len h6.1
 have hoff' :=rM hoff
 have hdl:=q.len d
 have hds:ds=[u]:=by
  obtain⟨h3,hd⟩:=List.length_eq_one_iff.1 (by rw [hdl,hsz]:ds.length=1)
  subst hd
  have e1:q.val [h3]=h3:=by simp [Rp.val,hag]
  rw [X,e1]at hu'
  rw [hu']
 obtain⟨w',hr,e1,e2,e3,e4,e5,e6⟩:=kc ti hsz d h5 (off:=off) (by simp at hl;omega)
 have hrun:(execOp a.eval ⟨none,.store U p v,ty,pos,after,g⟩).run E.P w= .ok .skip w' :=by
  simp [execOp,Y,X,Instr.storeAt,M,Instr.sureAddr,hr]
 rw [hsz]at e5
 have hnew:(rH r hs').rc S (cur.toList.take off++ds++cur.toList.drop (off+1)) (set x y):=by
  have h7:=hset S _ _ _ _ h6.1 d
  rw [hsz]at h7
  refine⟨h7,fun p hp=>?_⟩
  rcases hk.all p hp with⟨f1,f2,_⟩|⟨f1,f2⟩
  ·rw [f2]
   exact Tc (by rw [hds,qp f1]) (by omega)
  ·rw [uC (by rw [hdl,hsz]) (by omega) f2]
   exact h6.2 _ (sU f1)
 obtain⟨g1,g2,g3⟩:=nl (O:=O) hsat (Q (rH r hs) T b x) (Q (rH r hs') T b (set x y)) ho (fun _=>s7) (fun _=>s7) ⟨e1,e2,e3,e4.1,e4.2⟩ e6 ⟨hno,_,e5,by simpa using hnew⟩ hno
 exact⟨w',S,jK,hrun,g1.more fun k hk=>⟨_,nA ..,hk⟩,g2,g3⟩
end
section
variable{ty:TypeId}
def cO{hs:HL}{x:α}{u:Value}(ti:TI E.P U 1 bytes false z)(hk:A2 hs off=some u)(hm:Q (rH r hs) T b x∈O)(hp:aJ E.N G p (Z (M b off))):
  cr E O G ⟨dst,.load U p,ty,pos,after,g⟩ (Z u):=(aE (q:=rV) ti rfl rfl (ack hk) hm hp).imp fun _ _ h=>(yn.1 h).1
def na{q:Rp α}{r:Rp β}{hs:HL}{x:β}{hx:TypeId}{l:Option Nat}(ti:TI E.P U 1 bytes false z)(hk:A2 hs off=some (au l cap xs.length))(hm:Q (rH r hs) T b x∈O)(hm2:tip q hx l cap xs∈O)(hp:aJ E.N G p (Z (M b off))):
  cr E O G ⟨dst,.load U p,ty,pos,after,g⟩ (tO q l cap xs):=fun a w S hs' ho hf=>
 oV (fun _ _ ⟨v,S',Y,X,d,h4⟩=>⟨v,S',Y,X,d,h4,by
  have h5:v=au l cap xs.length:=h4
  rw [h5]
  exact m8 (((ho.ext0 X).mem _ hm2).1)⟩) (cO (g:=g) (ty:=ty) (pos:=pos) (after:=after) (dst:=dst) ti hk hm hp a w S hs' ho hf)
def Ut{t:Ty}{x:Operand}(Y: ∀S v,t.p S v->v.oneCell' =true)(V:aJ E.N G x t):cr E O G ⟨dst,.box T x,ty,pos,after,g⟩ (df (rT t) ()):=
 RY (fun S a hf=>tRT.2 ⟨Y _ _ (V S a hf),V S a hf⟩)
end
def T5:HL->HL->Prop
 |[],_=>True
 |p::l,hs=>A2 hs p.1=some p.2/\T5 l hs
def T5.all{hs:HL}: ∀{l:HL},T5 l hs-> ∀p∈l,p∈hs
 |_::_,⟨h,_⟩,_,.head _=>sU h
 |_::_,⟨_,h⟩,_,.tail _ hm=>T5.all h _ hm
end

variable{O' :List OE}
def EffOK.perm{t:OI->Ty}(h:EffOK E O' G o post t)(k: ∀{w S},er E.base E.B w S O->er E.base E.B w S O')(m: ∀f∈O',f∈O):EffOK E O G o post t:=fun a w S hs ho hf K=>
 oV (fun _ _ ⟨v,S',x,Y,X,d,h4,h5⟩=>⟨v,S',x,Y,X.more fun _ ⟨f,hf,hk⟩=>⟨f,m f hf,hk⟩,d,h4,h5⟩) (h a w S hs (k ho) hf K)
variable{x0 x1 x2 x3 x4 x5:OE}
namespace EffOK
section
variable{t:OI->Ty}
def fr1(h:EffOK E (x1::x0::O) G o post t):EffOK E (x0::x1::O) G o post t:=h.perm (fun hw=>er.swap hw) (fun f hf=>by simp only [jf]at hf ⊢;rcases hf with h|h|h<;>simp [h])
def fr2(h:EffOK E (x2::x0::x1::O) G o post t):EffOK E (x0::x1::x2::O) G o post t:=h.perm (fun hw=>rx hw) (fun f hf=>by simp only [jf]at hf ⊢;rcases hf with h|h|h|h<;>simp [h])
def fr3(h:EffOK E (x3::x0::x1::x2::O) G o post t):EffOK E (x0::x1::x2::x3::O) G o post t:=h.perm (fun hw=>tL hw) (fun f hf=>by simp only [jf]at hf ⊢;rcases hf with h|h|h|h|h<;>simp [h])
def fr4(h:EffOK E (x4::x0::x1::x2::x3::O) G o post t):EffOK E (x0::x1::x2::x3::x4::O) G o post t:=h.perm (fun hw=>wC hw) (fun f hf=>by simp only [jf]at hf ⊢;rcases hf with h|h|h|h|h|h<;>simp [h])
def fr5(h:EffOK E (x5::x0::x1::x2::x3::x4::O) G o post t):EffOK E (x0::x1::x2::x3::x4::x5::O) G o post t:=h.perm (fun hw=>tK hw) (fun f hf=>by simp only [jf]at hf ⊢;rcases hf with h|h|h|h|h|h|h<;>simp [h])
def fr6{x6:OE}(h:EffOK E (x6::x0::x1::x2::x3::x4::x5::O) G o post t):EffOK E (x0::x1::x2::x3::x4::x5::x6::O) G o post t:=h.perm (fun hw=>tJ hw) (fun f hf=>by simp only [jf]at hf ⊢;rcases hf with h|h|h|h|h|h|h|h<;>simp [h])
def fr7{x6 x7:OE}(h:EffOK E (x7::x0::x1::x2::x3::x4::x5::x6::O) G o post t):EffOK E (x0::x1::x2::x3::x4::x5::x6::x7::O) G o post t:=h.perm (fun hw=>Fk hw) (fun f hf=>by simp only [jf]at hf ⊢;rcases hf with h|h|h|h|h|h|h|h|h<;>simp [h])
def post_imp{post' :OI->List OE}(h:EffOK E O G o post t)(k: ∀{w S x},er E.base E.B w S (post x)->er E.base E.B w S (post' x)):EffOK E O G o post' t:=fun a w S hs ho hf K=>
 oV (fun _ _ ⟨v,S',x,Y,X,d,h4,h5⟩=>⟨v,S',x,Y,X,d,k h4,h5⟩) (h a w S hs ho hf K)
end
end EffOK
variable{P:Program}{args:A->List Ty}{res:ρ->Ty}
section
variable{ty:TypeId}
def MY{zs:List α}{y v:α}{i:Int}{x:Operand}(ti:TI E.P U sz bytes agg z)(hsz:r.sz=sz)(hy:gR xs i=some y)(hz:xs.set i.toNat v=zs)(hp:aJ E.N G p (Z (M b (i.toNat*r.sz))))(hv:aJ E.N G x (tD r v)):EffOK E (Q (nF r n) T b xs::O) G ⟨none,.store U p x,ty,pos,after,g⟩ (fun _=>Q (nF r n) T b zs::O) (fun _=>DZ):=E4 (fun _ h=>(by cases h)) fun a w S hsat hown hf hbase=>by
 subst hz
 have Y:a.eval p=M b (i.toNat*r.sz):=hp S a hf
 obtain⟨ds,X,d⟩:=hv S a hf
 obtain⟨⟨hno,cur,h5,h6⟩,_⟩:=hown.1
 obtain⟨h0,hy'⟩:=ne hy
 have hlt:i.toNat<xs.length:=(sf.1 hy').1
 have hl:=kC h6.2
 simp only [Cs]at hl
 have hmul:i.toNat*r.sz+r.sz<=xs.length*r.sz:=by rw [<-Nat.succ_mul];exact Ak _ hlt
 obtain⟨w',hr,e1,e2,e3,e4,e5,e6⟩:=kc ti hsz d h5 (off:=i.toNat*r.sz) (by omega)
 have hrun:(execOp a.eval ⟨none,.store U p x,ty,pos,after,g⟩).run E.P w= .ok .skip w' :=by
  simp [execOp,Y,X,Instr.storeAt,M,Instr.sureAddr,hr]
 obtain⟨g1,g2,g3⟩:=nl (O:=O) hsat (Q (nF r n) T b xs) (Q (nF r n) T b (xs.set i.toNat v)) hown (fun _=>s7) (fun _=>s7) ⟨e1,e2,e3,e4.1,e4.2⟩ e6 ⟨hno,_,e5,by rw [CU];exact h6.1,Dh d h6.2 hlt⟩ hno
 exact⟨w',S,jK,hrun,g1.more fun c hc=>⟨_,nA ..,hc⟩,g2,g3⟩

section
def rs{x:α}(ti:TI E.P T sz bytes agg z)(V: ∀S,r.rc S z x):
  EffOK E O G ⟨some h3,.alloc T,ty,pos,after,g⟩ (fun i=>Q r T (i.h 0).2 x::O) (fun i=>Z (M (i.h 0).2 0)):=fun a w S hs ho hf K=>by
 obtain⟨zv,hzr,hzc⟩:=ti.zero w
 obtain⟨he,hs',hno⟩:=jJ (w:=w) (.cells z.toArray T (0,0)) hs
 have hrun:(execOp a.eval ⟨some h3,.alloc T,ty,pos,after,g⟩).run E.P w= .ok (.value (M w.heap.size 0)) (w.alloc (.cells z.toArray T (0,0))):=by
  simp [execOp,Instr.alloc,hzr,newVar,newRow,hzc,M]
 refine⟨fun c h=>(by cases h),?_⟩
 rw [hrun]
 exact⟨_,S,oi none w.heap.size,rfl,he.more fun _ K=>K.elim,hs',rG ho he (e:=Q r T w.heap.size x) ⟨hno,z.toArray,xf w _,by simpa using V S⟩ (fun b K=>An K.symm) K,rfl⟩
end
section
def aC{x:Operand}(V:aJ E.N G x (Z (M b off))):cr E O G ⟨dst,.nilCheck x,ty,pos,after,g⟩ (Z (M b off)):= .of_pure fun a w S _ _ hf=>by
 have Y:a.eval x=M b off:=V S a hf
 exact⟨M b off,by simp [execOp,Y,M],rfl⟩
def Uq{y:α}{x:Operand}(V:aJ E.N G x (df r y)):cr E O G ⟨dst,.nilCheck x,ty,pos,after,g⟩ (df r y):= .of_pure fun a w S _ _ hf=>by
 have h0:=V S a hf
 obtain⟨b,off,c,U,fr,Y,X,d⟩:=h0
 exact⟨_,by simp [execOp,Y],b,off,c,U,fr,rfl,X,d⟩
def fX{u:Value}(ti:TI E.P U 1 bytes false z)(hm:Q rV T b u∈O)(hp:aJ E.N G p (Z (M b 0))):
  cr E O G ⟨dst,.load U p,ty,pos,after,g⟩ (Z u):=(aE (q:=rV) (get:=fun x=>x) ti rfl rfl bp hm hp).imp fun _ _ h=>(yn.1 h).1
def vl{t:Ty}(ti:TI E.P U 1 bytes false z)(hp:aJ E.N G p (df (rT t) ())):cr E O G ⟨dst,.load U p,ty,pos,after,g⟩ t:=Ka ti hp
end
def Fh(h:O=O')(k:RG E ops bx rest O' G):RG E ops bx rest O G:=by subst h;exact k
def hW{x:Operand}{u:Value}(h:aJ N G x (Z u))(ho:u.oneCell' =true):aJ N G x (tD rV u):=fun S a hf=>yn.2 ⟨h S a hf,ho⟩
def hTT{x:Operand}{t:Ty}(Y: ∀S v,t.p S v->v.oneCell' =true)(h:aJ N G x t):aJ N G x (tD (rT t) ()):=fun S a hf=>tRT.2 ⟨Y _ _ (h S a hf),h S a hf⟩
def Up{args:α->List Ty}{res:β->Ty}{f:α->Option β}: ∀S v,(lF P args res f).p S v->v.oneCell' =true:=fun _ _ ⟨_,_,e,_⟩=>by rw [e];rfl
end

variable{mm:Bool}{ys:List α}
def JD{l:Option Nat}{t' e' :TypeId}(D:P.underlying t' =some (.slice e'))(h:Aa mm r U l cap xs w S)(hs:dV xs lo (xs.length:Int)=some ys):
  ∃news,Src P r.sz t' (nE r.sz l cap lo.toNat ys.length) ys.length news w/\q0 r S news ys:=by
 obtain⟨cells,Y,X,_⟩:=h
 obtain⟨lo',m,rfl,hm,d,h4,rfl⟩:=fR hs
 have hm' :m=xs.length:=by omega
 subst hm'
 rw [DB,u0]
 cases l with
 |none=>
  have V:xs=[]:=rN Y.1
  subst V
  exact⟨[],by simpa [nE] using Src.ofNil w D 0,by simp [q0]⟩
 |some b=>
  obtain⟨cur,g1,g2,g3,g4,g5⟩:=Y
  have hlen:(xs.drop lo').length=xs.length-lo' :=by simp
  have hcl:=kC X
  have hsp:xs=xs.take lo' ++xs.drop lo' :=(s6 lo' xs).symm
  have htl:(xs.take lo').length=lo' :=by simp;omega
  have hr:q0 r S (cells.drop (lo' *r.sz)) (xs.drop lo'):=by
   rw [hsp]at X
   have:=(qb X).2
   rwa [htl]at this
  have hmul:lo' *r.sz<=xs.length*r.sz:=Ak _ d
  refine⟨cells.drop (lo' *r.sz),?_,hr⟩
  unfold nE
  refine Src.ofSlice w D _ _ _ _ (kC hr) (fun j u hu=>?_) (yw hr)
  by_cases hc:cap=lo'
  ·have:xs.drop lo' =[]:=Ht (by omega)
   rw [this]at hr
   have hr' :cells.drop (lo' *r.sz)=[]:=hr
   rw [hr']at hu;simp at hu
  ·simp only [hc,lD]
   rw [jl,wx g1]
   rw [vH,<-g5]at hu
   have hj:lo' *r.sz+j<xs.length*r.sz:=by
    have:=(sf.1 hu).1
    simp at this;omega
   rw [yU hj]at hu
   simpa using hu
variable{yt:TypeId}
section
variable{ty:TypeId}
def Qv{l:Option Nat}{x:Operand}(D:E.P.underlying t=some (.slice e))(hm:mf mm r U l cap xs∈O)(hs:dV xs lo (xs.length:Int)=some ys)(V:aJ E.N G x (Z (nE r.sz l cap lo.toNat ys.length)))(hd:Nat.blt h3 E.N.n=true)(k: ∀b,(b=true->ys=[])->RG E ops bx rest O ((h3,tD rB b)::G)):RG E ops bx (⟨some h3,.binOp .eql t x (.const (.slice none 0 0)) yt,ty,pos,after,none⟩::rest) O G:= .of rfl fun a w S st=>by
 have Y:a.eval x=nE r.sz l cap lo.toNat ys.length:=V S a st.facts
 obtain⟨⟨cells,hraw,_⟩,_⟩:=st.own.mem _ hm
 have hcn:a.eval (.const (.slice none 0 0))= .slice none 0 0:=rfl
 cases l with
 |none=>
  have hx0:xs=[]:=rN hraw.1
  have hy0:ys=[]:=by
   obtain⟨lo',m,_,_,_,_,rfl⟩:=fR hs
   subst hx0;simp
  have d:(Op.equal t (.slice none 0 0) (.slice none 0 0)).run E.P w= .ok true w:=AC fun h3=>by
   simp [Op.equalIn,jo D]
  have hrun:(execOp a.eval ⟨some h3,.binOp .eql t x (.const (.slice none 0 0)) yt,ty,pos,after,none⟩).run E.P w= .ok (.value (.bool true)) w:=by
   simp [execOp,Y,nE,hcn,eqGuard,binOp,d]
  refine⟨fun c h=>(by cases h),?_⟩
  rw [hrun]
  exact k true (fun _=>hy0) _ _ S (st.step (jn _ _ _) st.sat hd (jp.2 rfl))
 |some b=>
  obtain⟨ad,hv⟩: ∃ad,nE r.sz (some b) cap lo.toNat ys.length= .slice (some ad) ys.length (cap-lo.toNat):=⟨_,rfl⟩
  have d:(Op.equal t (.slice (some ad) ys.length (cap-lo.toNat)) (.slice none 0 0)).run E.P w= .ok false w:=AC fun h3=>by
   simp [Op.equalIn,jo D]
  have hrun:(execOp a.eval ⟨some h3,.binOp .eql t x (.const (.slice none 0 0)) yt,ty,pos,after,none⟩).run E.P w= .ok (.value (.bool false)) w:=by
   simp [execOp,Y,hv,hcn,eqGuard,binOp,d]
  refine⟨fun c h=>(by cases h),?_⟩
  rw [hrun]
  exact k false (fun e=>(by cases e)) _ _ S (st.step (jn _ _ _) st.sat hd (jp.2 rfl))
def M9{t' :TypeId}{l l2:Option Nat}{cap2:Nat}{zs us:List α}{x y:Operand}(ti:TI E.P T sz bytes agg z)(hsz:r.sz=sz)(hz:Nat.beq z.length sz=true)(h0:Nat.blt 0 sz=true)(h128:Nat.ble bytes 2048=true)(D:E.P.underlying t=some (.slice T))(ht' :t' =t)(hd:Nat.blt h3 E.N.n=true)(V:aJ E.N G x (Z (au l cap n)))(hm:mf mm r U l2 cap2 us∈dk r T l cap xs::O)(hs:dV us lo (us.length:Int)=some ys)(hy:aJ E.N G y (Z (nE r.sz l2 cap2 lo.toNat ys.length)))(happ:app xs ys=some zs)(k: ∀l' cap',RG E ops bx rest (dk r T l' cap' zs::O) ((h3,Z (au l' cap' zs.length))::G))(hn:n=xs.length:=by rfl):
  RG E ops bx (⟨some h3,.call ⟨.builtin .append,#[x,y],#[t,t']⟩,ty,pos,after,none⟩::rest) (dk r T l cap xs::O) G:=by
 subst ht'
 exact wB (u:=fun cap' l' =>Z (au l' cap' zs.length)) ti hsz hz h0 h128 D hd V (fun a w S st=>by
  have Y:a.eval y=nE r.sz l2 cap2 lo.toNat ys.length:=hy S a st.facts
  rw [Y]
  exact JD D (st.own.mem _ hm).1 hs) happ (fun _ _ _ _ _=>rfl) k hn
end

section
variable{c:Code}{args:α->List Ty}{it:It α}{fp:Nat->Prop}
end

section
variable{ty:TypeId}
end


def qZ(l:List (Option Nat×Nat)):OI:={h:=fun n=>l.getD n (none,0)}
def eT(P:Program){A h2 ρ:Type}(args:A->List Ty)(Ob:h2->OI->List OE)(res:ρ->Ty)(f:h2->A->Option (ρ×h2)):Ty where
 p:=fun S v=> ∀x y R,f x y=some R-> ∃fid fst cap,v= .func (.func fid) fst cap/\ak P fid=true/\ ∀i w S' vs,SH.le S S' ->mt w S' ->w7 S' (args y) vs->er 0 tY w S' (Ob x i)->
  Calls P fid (fst++vs.toArray++cap) w fun en w' => ∃j v S'',en= .returned v/\(res R.1).p S'' v/\kh (GU (Ob x i)) w S' w' S'' /\mt w' S'' /\er 0 tY w' S'' (Ob R.2 j)/\ ∀k,GU (Ob R.2 j) k->GU (Ob x i) k\/w.heap.size<=k
 mono:=fun h k x y R hf=>by
  obtain⟨fid,fst,cap,e,hc,hs⟩:=k x y R hf
  exact⟨fid,fst,cap,e,hc,fun i w S' vs hle=>hs i w S' vs (SH.le_trans h hle)⟩
variable{Ob:h2->OI->List OE}
def Gn:(eT P args Ob res (fun _ _=>none)).p S v:=fun _ _ _ h=>by cases h
variable{ats:Array TypeId}{fid:FuncId}{fn:Func}
section
section
variable{ty:TypeId}
def qI(hc:ak E.P fid=true)(hp:aJ E.N G p (Z (M b 0)))(hs: ∀x y R,f x y=some R-> ∀i,bk E.P fid (Z (M b 0)::args y) (Ob x i) (fun _:OI=>res R.1) (fun j=>Ob R.2 j)):
  cr E O G ⟨dst,.makeFunc (.func fid) #[p] #[],ty,pos,after,g⟩ (eT E.P args Ob res f):= .of_pure fun a w S _ _ hf=>by
 have Y:a.eval p=M b 0:=hp S a hf
 refine⟨.func (.func fid) #[M b 0] #[],by simp [execOp,Instr.makeFunc,Y],fun x y R hR=>⟨fid,#[M b 0],#[],rfl,hc,fun i w' S' vs _ hsat hv ho=>?_⟩⟩
 have:=hs x y R hR i w' S' (M b 0::vs) hsat ⟨rfl,hv⟩ ho
 rw [show(#[M b 0]++vs.toArray++ #[]:Array Value)=(M b 0::vs).toArray from by simp]
 exact this
def oo(hc:ak E.P fid=true)(hs: ∀x y R,f x y=some R-> ∀i,bk E.P fid (args y) (Ob x i) (fun _:OI=>res R.1) (fun j=>Ob R.2 j)):
  aJ E.N G (.func fid) (eT E.P args Ob res f):=fun S a _ x y R hR=>
 ⟨fid,#[],#[],rfl,hc,fun i w' S' vs _ hsat hv ho=>by
  rw [show(#[]++vs.toArray++ #[]:Array Value)=vs.toArray from by simp]
  exact hs x y R hR i w' S' vs hsat hv ho⟩
end
def Bi{x:h2}{y:A}{R:ρ×h2}{i:OI}{ty:TypeId}{fo:Operand}{xs:List Operand}(Or:List OE)(hO:O=Ob x i++Or)(hf:aJ E.N G fo (eT E.P args Ob res f))(hR:f x y=some R)(V:kL E.N G xs (args y))(hpost: ∀j,Ob R.2 j++Or=post j):
  EffOK E O G ⟨some h3,.call ⟨.value fo,xs.toArray,ats⟩,ty,pos,after,g⟩ post (fun _=>res R.1):=fun a w S hsat ho hF K=>by
 subst hO
 obtain rfl:(fun j=>Ob R.2 j++Or)=post:=funext hpost
 obtain⟨fid,fst,cap,e,hc,hs⟩:=hf S a hF x y R hR
 have hr:(execOp a.eval ⟨some h3,.call ⟨.value fo,xs.toArray,ats⟩,ty,pos,after,g⟩).run E.P w= .ok (.enter fid (fst++(xs.map a.eval).toArray++cap)) w:=by
  simp [execOp,resolve,e,Deferred.ofValue,invoke,iF hc]
 refine⟨fun c h=>(by cases h),?_⟩
 rw [hr]
 exact(hs i w S _ (SH.le_refl _) hsat (V.tys hF) (qn ho).1.weak).mono fun en w' ⟨j,v,S',he,hv,Y,X,d,h4⟩=>⟨_,he,v,S',j,rfl,Y.more fun b ⟨f,hf,K⟩=>⟨f,DK _ hf,K⟩,X,er.turn ho K Y d h4,hv⟩
section
variable{N:Nat}{w0:World}{S0:SH}{O1:List OE}{ι:Type}{t:ι->Ty}{O2:ι->List OE}
def qW{rvs:List ResultVar}(hr:fn.results=rvs.toArray)(Y:Nat.beq rvs.length 1=false)(h:Qu P ⟨N,[]⟩ G rvs ts)(i:ι)(hO:O=O2 i)(D:t i=tT ts):
  AT ⟨P,⟨N,[]⟩,GU O1,w0,S0,none⟩ (bodyPost P fn (MX ⟨P,⟨N,[]⟩,GU O1,w0,S0,none⟩ O1 t O2)) .ret O G:=fun a w S st=>by
 obtain⟨vs,k1,k2,k3⟩:=h.run st.sat st.facts
 have hne: ¬vs.length=1:=by rw [k3];intro e;rw [e]at Y;cases Y
 refine⟨st.facts.defers,.tuple vs.toArray,?_,Bh st rfl i hO (by rw [D];exact⟨vs,rfl,k2⟩)⟩
 have e1:(fn.results.mapM (zE a.tmps)).run P w= .ok vs.toArray w:=by
  rw [hr,List.mapM_toArray,Sem.run_map,k1]
  rfl
 have e3:results fn a.tmps=((fn.results.mapM (zE a.tmps))>>=fun vs=>pure (if h:vs.size=1 then vs[0]else .tuple vs)):=rfl
 rw [e3,tP,e1]
 simp [Result.andThen,hne]
def dz{k:Nat}{x:α}(hr:fn.results= #[.cell k T])(ti:TI P T sz bytes agg z)(hsz:r.sz=sz)(hag:r.agg=agg)(hk:cu G k=some (df r x))(i:ι)(hO:O=O2 i)(D:t i=tD r x):
  AT ⟨P,⟨N,[]⟩,GU O1,w0,S0,none⟩ (bodyPost P fn (MX ⟨P,⟨N,[]⟩,GU O1,w0,S0,none⟩ O1 t O2)) .ret O G:=fun a w S st=>by
 obtain⟨b,off,c,U,fr,Y,X,d⟩:=st.facts.at_ k _ hk
 obtain⟨c',h4,h5⟩:=st.sat.part X (r.len d)
 rw [<-h5]at d
 refine⟨st.facts.defers,r.val ((c'.toList.drop off).take r.sz),?_,Bh st rfl i hO (by rw [D];exact⟨_,rfl,d⟩)⟩
 have hl:=k9 ti h4 hsz hag d
 have h1' :a.tmps[k]?.getD undef=Value.pointer (some ⟨b,off,none⟩):=by simpa [Hv] using Y
 simp [results,hr,h1',asAddr,hl]
end
end
variable{et kt:TypeId}{kv:κ->Value}{os:List (Option Nat×Nat)}
section
variable [DecidableEq κ]{k:κ}{x i v:Operand}{dst:Option Nat}{ty:TypeId}
def kb{γ:β->Ty}{y:β}(hm:E.P.underlying t=some (.map kt et))(hk:La E.P kt kv)(V:aJ E.N G x (Z (uQ b)))(hi:OY E.N G i (kv k))(hv:aJ E.N G v (γ y))
  (h: ∀os',RG E ops bx rest (AY (N0 γ) kv b none os' (gw m k y)::O) G):
  RG E ops bx (⟨none,.insert t x i v,ty,pos,after,none⟩::rest) (AY (N0 γ) kv b none os m::O) G:= .of rfl fun a w S st=>by
 have Y:a.eval x=uQ b:=V S a st.facts
 have X:a.eval i=kv k:=hi S a st.facts
 have d:(γ y).p S (a.eval v):=hv S a st.facts
 obtain⟨⟨hp,hfp⟩,hap,hO⟩:=st.own
 obtain⟨hno,hnb,es,clock,e3,e4,hst⟩:=hp
 obtain⟨q,hq,hdk,hinj⟩:=hk
 obtain⟨os1,p1,p2,_⟩:=wt hdk hinj (k:=k) 0 e4
 have hnb1: ∀o∈os1,o.1≠some b:=fun o ho=>by
  rcases p1 o ho with h|h
  ·exact hnb o h
  ·rw [h];exact fun e=>by cases e
 obtain⟨w',os',r,x1,x2,x3,x4⟩:=PQ (hx:=N0 γ) (E:=E) (y:=y) (o:=(none,0)) (val:=a.eval v) st.sat hm ⟨q,hq,hdk,hinj⟩ ⟨hno,hnb1,es,clock,e3,p2,hst⟩ ⟨rfl,d⟩ (fun e=>by cases e) (fun _ _ _ e=>by cases e)
 have hrun:(execOp a.eval ⟨none,.insert t x i v,ty,pos,after,none⟩).run E.P w= .ok .skip w' :=by simp [execOp,Y,X,r]
 refine⟨fun c h=>(by cases h),?_⟩
 rw [hrun]
 have hfp' : ∀j,(AY (N0 γ) kv b none os' (gw m k y)).fp j->(AY (N0 γ) kv b none os m).fp j:=fun j hj=>by
  rcases x4 j hj with(h|⟨o,ho,e⟩)|e
  ·exact .inl h
  ·rcases p1 o ho with h|h
   ·exact .inr ⟨o,h,e⟩
   ·rw [h]at e;cases e
  ·cases e
 exact h os' _ _ S ⟨st.ext.step x1 (fun c hc=>hfp c (.inl hc)),x2,⟨⟨x3,fun j hj=>hfp j (hfp' j hj)⟩,fun f hf j hj=>hap f hf j (hfp' j hj),hO.ext x1 fun f hf j hj hjb=>hap f hf j (.inl hjb) hj⟩,st.facts⟩
end

def G0{κ β:Type}(γ:β->Ty)(kv:κ->Value)(S:SH):List MapEntry->List (κ×β)->Prop
 |[],[]=>True
 |e::es,q::m=>e.key=kv q.1/\(γ q.2).p S e.val/\(∀p∈m,p.1≠q.1)/\G0 γ kv S es m
 |_,_=>False
def z7{κ β:Type}{γ:β->Ty}{kv:κ->Value}{S S' :SH}(h:SH.le S S'): ∀{es:List MapEntry} {m:List (κ×β)},G0 γ kv S es m->G0 γ kv S' es m
 |[],[],_=>trivial
 |_::_,q::_,⟨Y,X,d,h4⟩=>⟨Y,(γ q.2).mono h X,d,z7 h h4⟩
def S4{κ β:Type} [DecidableEq κ]{γ:β->Ty}{kv:κ->Value}{w:World}{S:SH}: ∀{es:List MapEntry} {os:List (Option Nat×Nat)} {m:List (κ×β)},w4 (N0 γ) kv w S none es os m->G0 γ kv S es m
 |[],[],[],_=>trivial
 |_::_,_::_,_::_,⟨Y,X,_,h4,h5⟩=>⟨Y,by rw [aR (by simp)]at X;exact X.2,h4,S4 h5⟩
def Tv{κ β:Type} [DecidableEq κ]{γ:β->Ty}{kv:κ->Value}{w:World}{S:SH}: ∀{es:List MapEntry} {m:List (κ×β)},G0 γ kv S es m->w4 (N0 γ) kv w S none es (m.map fun _=>(none,0)) m
 |[],[],_=>trivial
 |_::_,_::_,⟨Y,X,d,h4⟩=>⟨Y,by rw [aR (by simp)];exact⟨rfl,X⟩,fun _ _ _ h=>(by cases h),d,Tv h4⟩
def ZK{κ β:Type}(γ:β->Ty)(kv:κ->Value)(m:List (κ×β)):Ty where
 p:=fun S v=> ∃b es clock,v=uQ b/\S b=some (.map es clock)/\G0 γ kv S es.toList m
 mono:=fun h ⟨b,es,cl,e,Y,X⟩=>by
  obtain⟨o',d,h4⟩:=h b _ Y
  have h5:o' = .map es cl:=h4
  subst h5
  exact⟨b,es,cl,e,d,z7 h X⟩
section
variable{c:Code} [DecidableEq κ]{k:κ}{x i:Operand}{γ:β->Ty}{dst:Option Nat}{ty:TypeId}
def J9{z:β}{zv:Value}(hm:E.P.underlying t=some (.map kt et))(hk:La E.P kt kv)(hz:ZV E.P et zv)(hzt: ∀S,(γ z).p S zv)(V:aJ E.N G x (ZK γ kv m))(hi:OY E.N G i (kv k)):
  cr E O G ⟨dst,.lookup t x i false,ty,pos,after,g⟩ (γ ((tZ m k).getD z)):= .of_pure fun a w S hs ho hf=>by
 obtain⟨b,es,clock,Y,d,h4⟩:=V S a hf
 obtain⟨o',h5,h6⟩:=hs b _ d
 have h7:o' = .map es clock:=h6
 subst h7
 obtain⟨q,hq,hd,hinj⟩:=hk
 have X:a.eval i=kv k:=hi S a hf
 obtain⟨_,_,_,h8⟩:=wt hd hinj (k:=k) 0 (Tv (w:=w) h4)
 rcases h8 with⟨g1,g2⟩|⟨y,o,e,j,g1,g2,g3,g4,g5⟩
 ·refine⟨zv,by simp [execOp,Y,X,ry hm hq (hd k) h5 hz g2],by rw [g1];exact hzt S⟩
 ·refine⟨e.val,by simp [execOp,Y,X,ry hm hq (hd k) h5 hz g4],by rw [g1];exact g3.2⟩
def St.settleMp{j:Nat}(h:St E (AY (N0 γ) kv b none os m::O) G a w S)(hk:cu G j=some (Z (uQ b))): ∃S',St E O ((j,ZK γ kv m)::G) a w S' :=by
 obtain⟨⟨hn,_,es,clock,d,h4,_⟩,_⟩:=h.own.1
 obtain⟨h8,hle,_,_⟩:=zD h (.inl rfl) d (tu _) hn
 have hv:a.tmps.getD j undef=uQ b:=h.facts.at_ j _ hk
 exact⟨_,h8.cons ⟨b,es,clock,hv,by simp [SH.set],z7 hle (S4 h4)⟩⟩
def Lj{e:Exit}(j:Nat)(hk:cu G j=some (Z (uQ b)))(h:AT E bx e O ((j,ZK γ kv m)::G)):AT E bx e (AY (N0 γ) kv b none os m::O) G:=
 fun a w _ st=>let⟨S',st'⟩:=st.settleMp hk;h a w S' st'
end

section
variable{ty:TypeId}
end
open Go.MapKept (Stamped)
section
variable [DecidableEq κ]
end
section
variable{c:Code} [DecidableEq κ]{r:Nat}{left:List κ}{cur:Option κ}{k:κ}{x i v:Operand}{dst:Option Nat}{ty:TypeId}
end
open Go.RowKit

def pg(xs:List Int):OQ:=xs.map fun n=>UInt8.ofNat n.toNat
def EO: ∀(xs:List Int) (r:ByteArray),xs.foldl (fun r n=>r.push (UInt8.ofNat n.toNat)) r=⟨r.data++(pg xs).toArray⟩
 |[],r=>by simp [pg]
 |x::xs,r=>by
  rw [List.foldl_cons,EO xs]
  simp [pg,ByteArray.push]
def AI{k:IntKind}{S:SH}: ∀{xs:List Int} {cs:List Value},q0 (rI k) S cs xs->cs=xs.map (Value.int k)
 |[],cs,h=>by rw [show cs=[]from h];rfl
 |x::xs,cs,⟨a,b,e,Y,X⟩=>by
  rw [e,show a=[.int k x]from Y,AI X]
  rfl
section
variable{c:Code}{ty:TypeId}
def BX{xs:List Int}{x:Operand}{dt:TypeId}(hs:E.P.underlying st=some (.slice e))(he:E.P.underlying e=some (.int .u8))(hd:E.P.underlying dt=some .string)(ti:TI E.P e sz bytes agg z)(hsz:Nat.beq sz 1=true)(V:aJ E.N G x (tD (fW (rI .u8)) xs)):cr E O G ⟨dst,.convert st dt x,ty,pos,after,g⟩ (tD rS (pg xs)):= .of_pure fun a w S hsat _ hf=>by
 obtain⟨ad,cap,hv,hle,hmax,hsl⟩:=jX.1 (V S a hf)
 refine⟨.string ⟨(pg xs).toArray⟩,?_,BI.2 rfl⟩
 have key: ∀(ad:Option Addr),Gt (rI .u8) S ad xs->(ad=none->xs=[])->(Conv.bytesToString (.slice ad xs.length cap)).run E.P w= .ok (.string ⟨(pg xs).toArray⟩) w:=fun ad h h0=>by
  cases ad with
  |none=>rw [h0 rfl];rfl
  |some p=>
   have hl:(loadCells p xs.length).run E.P w= .ok (xs.map (Value.int .u8)).toArray w:=by
    rcases h with h|⟨b,off,cc,T,fr,Y,X,d⟩
    ·rw [h];rfl
    ·cases Y
     obtain⟨c',h4,h5⟩:=hsat.part X (kC d)
     have h6:xs.length*(rI .u8).sz=xs.length:=by show xs.length*1=_;omega
     rw [h6]at d h5
     have h7:=AI d
     exact vb h4 (h5.trans h7) (by simp)
   rw [run_bytesToString w p xs.length cap xs hl,EO]
   simp [ByteArray.empty,ByteArray.emptyWithCapacity]
   rfl
 simp [execOp,hv,run_convert_bytes_string w st dt e _ _ _ hs he hd,key ad hsl (fun h=>by
  rcases hsl with Y|⟨b,off,cc,T,fr,Y,_⟩
  ·exact Y
  ·rw [h]at Y;cases Y)]
end

abbrev NG:=Nat->(Option Nat×Nat)×(Nat->Option Nat×Nat)
inductive NPl where
 |o
 |i (k:Nat)
 |l (k j:Nat)
section
def hd2(q:Nat->Option Nat×Nat)(zs:List (List α)):List Value:=zs.mapIdx fun j z=>au (q j).1 (q j).2 z.length
def hd1(prj:β->List (List α))(g:NG)(x:List β):List Value:=x.mapIdx fun k y=>au (g k).1.1 (g k).1.2 (prj y).length
def nsB(prj:β->List (List α))(l:Option Nat)(g:NG)(x:List β)(h:Option (Nat×Nat)):NPl->Option Nat
 | .o=>l
 | .i k=>(x[k]?).bind fun _=>(g k).1.1
 | .l k j=>if h=some (k,j)then none else((x[k]?).bind fun y=>(prj y)[j]?).bind fun _=>((g k).2 j).1
structure nstP(prj:β->List (List α))(r:Rp α)(T1 T2 T3:TypeId)(l:Option Nat)(cap n:Nat)(g:NG)(x:List β)(h:Option (Nat×Nat))(w:World)(S:SH):Prop where
 len:x.length=n
 out:Aa false rV T1 l cap (hd1 prj g x) w S
 inn: ∀k y,x[k]? =some y->Aa false rV T2 (g k).1.1 (g k).1.2 (hd2 (g k).2 (prj y)) w S
 lvs: ∀k y j z,x[k]? =some y->(prj y)[j]? =some z->h≠some (k,j)->Aa true r T3 ((g k).2 j).1 ((g k).2 j).2 z w S
 inj: ∀ae t b,nsB prj l g x h ae=some b->nsB prj l g x h t=some b->ae=t
variable{prj:β->List (List α)}{T1 T2 T3:TypeId}{l:Option Nat}{g:NG}{x:List β}{h:Option (Nat×Nat)}
end
section
variable{prj:β->List (List α)}{T1 T2 T3:TypeId}{l:Option Nat}{g:NG}{x:List β}{h:Option (Nat×Nat)}
variable{c:Code}{ty:TypeId}{gd:Option (Nat×Bool)}
open Classical in
noncomputable def ab4(w:World)(S:SH)(P:Nat->Prop):SH:=fun b=>if P b then w.heap[b]? else S b
def g0(hs:List (Option Nat×Nat)):NG:=fun k=>(hs.getD k (none,0),fun _=>(none,0))
def tsB(l:Option Nat)(q:Nat->Option Nat×Nat)(zs:List (List α))(h:Option Nat):Option Nat->Option Nat
 |none=>l
 |some j=>if h=some j then none else(zs[j]?).bind fun _=>(q j).1
structure rowP(r:Rp α)(T2 T3:TypeId)(l:Option Nat)(cap n:Nat)(q:Nat->Option Nat×Nat)(zs:List (List α))(h:Option Nat)(w:World)(S:SH):Prop where
 len:zs.length=n
 inn:Aa false rV T2 l cap (hd2 q zs) w S
 lvs: ∀j z,zs[j]? =some z->h≠some j->Aa true r T3 (q j).1 (q j).2 z w S
 inj: ∀ae t b,tsB l q zs h ae=some b->tsB l q zs h t=some b->ae=t
variable{q:Nat->Option Nat×Nat}{zs:List (List α)}{k:Option Nat}
end

def FY(es:List Bool)(done:Array Bool):List Nat:=(List.range es.length).filter fun k=>(es[k]?).getD false&&done.getD k false
def UE(es:List Bool)(i:Nat)(ae:List Nat):List Nat:=(List.range es.length).filter fun k=>Nat.beq k i||ae.contains k
def YE:List Nat->List Nat->Bool
 |[],[]=>true
 |a::ae,b::t=>Nat.beq a b&&YE ae t
 |_,_=>false
def MW: ∀{ae t:List Nat},YE ae t=true->ae=t
 |[],[],_=>rfl
 |a::ae,b::t,h=>by
  simp only [YE,lq]at h
  rw [pj h.1,MW h.2]
 |[],_::_,h=>by cases h
 |_::_,[],h=>by cases h
def QM:List (List Nat×((Nat->OI)->List OE))->List Nat->(Nat->OI)->List OE
 |[],_,_=>[]
 |p::r,ae,σ=>bif YE p.1 ae then p.2 σ else QM r ae σ
def AX{k:Nat}:k∈FY es done↔es[k]? =some true/\done.getD k false=true:=by
 unfold FY
 rw [List.mem_filter,List.mem_range,lq]
 constructor
 ·rintro⟨Y,X,d⟩
  refine⟨?_,d⟩
  rw [tM Y]at X ⊢
  simpa using X
 ·rintro⟨Y,X⟩
  exact⟨(sf.1 Y).1,by rw [Y];rfl,X⟩
def Qk{i:Nat}(h:es[i]? =some false):FY es (done.setIfInBounds i true)=FY es done:=by
 unfold FY
 refine List.filter_congr fun k hk=>?_
 by_cases hik:i=k
 ·subst hik;rw [h];rfl
 ·rw [wG false hik]
def Vw{i:Nat}(h:es[i]? =some true)(hs:i<done.size):FY es (done.setIfInBounds i true)=UE es i (FY es done):=by
 unfold UE
 conv=>lhs;unfold FY
 refine List.filter_congr fun k hk=>?_
 by_cases hik:i=k
 ·subst hik;simp [h,hs]
 ·rw [wG false hik]
  have K:Nat.beq k i=false:=by
   cases K:Nat.beq k i with
   |false=>rfl
   |true=>exact absurd (pj K).symm hik
  rw [K,uH,w9,Jh,AX,lq]
  constructor
  ·rintro⟨Y,X⟩
   refine⟨?_,X⟩
   cases he:es[k]? with
   |none=>rw [he]at Y;cases Y
   |some b=>rw [he]at Y;simpa using Y
  ·rintro⟨Y,X⟩
   exact⟨by rw [Y];rfl,X⟩
def Gq:List Nat->List (List Nat)
 |[]=>[[]]
 |k::l=>(Gq l).map (k:: ·)++Gq l
def C9(es:List Bool):List Nat:=(List.range es.length).filter fun k=>(es[k]?).getD false
def xT(p:Nat->Bool): ∀l:List Nat,l.filter p∈Gq l
 |[]=>zq.2 rfl
 |k::l=>by
  unfold Gq
  rw [tQ]
  by_cases h:p k=true
  ·rw [List.filter_cons_of_pos h]
   exact .inl (Ao.2 ⟨_,xT p l,rfl⟩)
  ·rw [List.filter_cons_of_neg h]
   exact .inr (xT p l)
def S9(es:List Bool)(done:Array Bool):FY es done∈Gq (C9 es):=by
 have:FY es done=(C9 es).filter fun k=>done.getD k false:=by
  unfold FY C9
  rw [List.filter_filter]
  refine List.filter_congr fun k _=>Bool.and_comm ..
 rw [this]
 exact xT _ _
def noE(L:List Oper)(es:List Bool)(i:Nat)(ae:List Nat):Bool:=
 ae.contains i||(C9 es).any fun k=>if ae.contains k then nK L L.length k i||(C9 es).any fun j=> !ae.contains j&&nK L L.length k j else nK L L.length i k
def O8(L:List Oper)(es:List Bool)(i:Nat)(aas:List (List Nat)):Bool:=(Gq (C9 es)).all fun ae=>noE L es i ae||aas.any fun a=>YE a ae
def Lh{α:Type}(p:α->Prop):List α->Prop
 |[]=>True
 |a::l=>p a/\Lh p l
def Lh.mem{p:α->Prop}: ∀{l:List α},Lh p l-> ∀a∈l,p a
 |_::_,⟨h,_⟩,_,.head _=>h
 |_::_,⟨_,h⟩,_,.tail _ hm=>Lh.mem h _ hm
abbrev Za:=List (List Nat×((Nat->OI)->List OE))
def DT(E:En)(G:mb)(L:List Oper)(ts:List TS)(Ss:Za)(es0:List Bool):Nat->List Oper->List Bool->Prop
 |_,[],_=>True
 |i,o::rest,false::es=>(∃(needs:List NS) (t:TS) (aas:List (List Nat)),ts[i]? =some t/\wS G ts needs/\(needs.all fun n=>pm L o i (n.at fun _=>jK))=true/\eE i o=true/\Ql L es0 i t=true/\O8 L es0 i aas=true/\o.dst.isSome=true/\
   Lh (fun ae=> ∀σ,ci E (QM Ss ae σ) L.toArray (wN needs σ) o (t.at σ)) aas)/\DT E G L ts Ss es0 (i+1) rest es
 |i,o::rest,true::es=>(∃(needs:List NS) (t:TS) (aas:List (List Nat×List Nat)),ts[i]? =some t/\wS G ts needs/\(needs.all fun n=>pm L o i (n.at fun _=>jK))=true/\eE i o=true/\Ql L es0 i t=true/\O8 L es0 i (aas.map (·.1))=true/\(aas.all fun p=>YE (UE es0 i p.1) p.2)=true/\
   Lh (fun p:List Nat×List Nat=> ∀σ,kU E L.toArray (QM Ss p.1 σ) (wN needs σ) o (fun x=>QM Ss p.2 (Lz σ i x)) (fun x=>t.at (Lz σ i x))) aas)/\DT E G L ts Ss es0 (i+1) rest es
 |_,_::_,[]=>False
def DT.get{ts:List TS}{Ss:Za}{es0:List Bool}: ∀(r:List Oper) (es:List Bool) (k:Nat),DT E G L ts Ss es0 k r es-> ∀(j:Nat) (o:Oper),r[j]? =some o->
    ∃e,es[j]? =some e/\ ∃(needs:List NS) (t:TS),ts[k+j]? =some t/\wS G ts needs/\(needs.all fun n=>pm L o (k+j) (n.at fun _=>jK))=true/\eE (k+j) o=true/\Ql L es0 (k+j) t=true/\
      (match e with
       |false=>o.dst.isSome=true/\ ∃aas,O8 L es0 (k+j) aas=true/\Lh (fun ae=> ∀σ,ci E (QM Ss ae σ) L.toArray (wN needs σ) o (t.at σ)) aas
       |true=> ∃aas:List (List Nat×List Nat),O8 L es0 (k+j) (aas.map (·.1))=true/\(aas.all fun p=>YE (UE es0 (k+j) p.1) p.2)=true/\Lh (fun p:List Nat×List Nat=> ∀σ,kU E L.toArray (QM Ss p.1 σ) (wN needs σ) o (fun x=>QM Ss p.2 (Lz σ (k+j) x)) (fun x=>t.at (Lz σ (k+j) x))) aas):=by
  intro r
  induction r with
  |nil=>intro es k _ j o h;simp at h
  |cons p r ih=>
    intro es k h j o ho
    cases es with
    |nil=>exact h.elim
    |cons e es=>
      cases e with
      |false=>
        obtain⟨⟨needs,t,aas,g1,g2,g3,g4,g5,g6,g7,g8⟩,X⟩:=h
        cases j with
        |zero=>
          simp at ho;subst ho
          exact⟨false,rfl,needs,t,g1,g2,g3,g4,g5,g7,aas,g6,g8⟩
        |succ j=>
          obtain⟨e',g1,g2⟩:=ih es (k+1) X j o (by simpa using ho)
          refine⟨e',by simpa using g1,?_⟩
          rw [show k+1+j=k+(j+1)from by omega]at g2
          exact g2
      |true=>
        obtain⟨⟨needs,t,aas,g1,g2,g3,g4,g5,g6,g7,g8⟩,X⟩:=h
        cases j with
        |zero=>
          simp at ho;subst ho
          exact⟨true,rfl,needs,t,g1,g2,g3,g4,g5,aas,g6,g7,g8⟩
        |succ j=>
          obtain⟨e',g1,g2⟩:=ih es (k+1) X j o (by simpa using ho)
          refine⟨e',by simpa using g1,?_⟩
          rw [show k+1+j=k+(j+1)from by omega]at g2
          exact g2
structure WD(E:En)(G:mb)(l:List Oper)(ts:List TS)(Ss:Za)(es:List Bool)(done:Array Bool)(a:Act)(w:World)(S:SH)(σ:Nat->OI):Prop where
 ext:kh E.B E.w0 E.S0 w S
 sat:mt w S
 own:er E.base E.B w S (QM Ss (FY es done) σ)
 size:a.tmps.size=E.N.n
 defers:a.defers=E.N.ds
 dsz:done.size=l.length
 down: ∀j o,l[j]? =some o->done.getD j false=true-> ∀e∈o.after,Region.binds .any e=true->done.getD e.on false=true
 old: ∀k t,cu G k=some t->(∀j o,l[j]? =some o->done.getD j false=true->o.dst≠some k)->t.p S (a.tmps.getD k undef)
 new: ∀j o h3 p,l[j]? =some o->done.getD j false=true->o.dst=some h3->ts[j]? =some p->(p.at σ).p S (a.tmps.getD h3 undef)
 deps: ∀j p,done.getD j false=true->ts[j]? =some p-> ∀k∈p.1,done.getD k false=true
section
variable{ts:List TS}{Ss:Za}
def WD.need(h:WD E G L ts Ss es done a w S σ){i:Nat}(hi:L[i]? =some o)(hun:done.getD i true=false)(hwait: ∀e∈o.after,Region.binds .any e=true->done.getD e.on false=true){needs:List NS}(Y:wS G ts needs)(X:(needs.all fun n=>pm L o i (n.at fun _=>jK))=true):bT E.N S a (wN needs σ):=by
 have hlt:i<done.size:=by rw [h.dsz];exact(sf.1 hi).1
 have hun' :done.getD i false=false:=by
  simp [hlt]at hun ⊢;exact hun
 refine⟨h.size,h.defers,?_⟩
 have key: ∀n∈needs,(n.ty σ).p S (a.tmps.getD n.slot undef):=by
  intro n hn
  have hs:=kQ.1 X n hn
  have ho:=Y.mem n hn
  unfold pm NS.at at hs
  unfold VT at ho
  cases hsrc:n.src with
  |some j=>
   rw [hsrc]at hs ho
   simp only [lq]at hs
   obtain⟨hs1,hs2⟩:=hs
   cases hj:L[j]? with
   |none=>rw [hj]at hs1;cases hs1
   |some p=>
    rw [hj]at hs1
    cases hd:p.dst with
    |none=>simp only [hd]at hs1;cases hs1
    |some h3=>
     simp only [hd]at hs1
     have hd' :=pj hs1
     subst hd'
     have hdone:done.getD j false=true:=by
      unfold Cw at hs2
      obtain⟨e,he0,K⟩:=DC.1 hs2
      have he:e∈o.after:=by simpa using he0
      simp only [lq]at K
      have:=hwait e he K.2
      rwa [pj K.1]at this
     have hm:=ho σ
     cases hf:ts[j]? with
     |none=>rw [hf]at hm;simp at hm
     |some f=>
      rw [hf]at hm
      have e:f.at σ=n.ty σ:=by simpa using hm
      rw [<-e]
      exact h.new j p n.slot f hj hdone hd hf
  |none=>
   rw [hsrc]at hs ho
   refine h.old _ _ (ho σ) fun j p hj hdone hd=>?_
   have:=kQ.1 hs p (s5 hj)
   simp only [hd,Nat.beq_refl,sm,uH]at this
   unfold Cw at this
   obtain⟨e,he0,K⟩:=DC.1 this
   have he:e∈p.after:=by simpa using he0
   simp only [lq]at K
   have d:=h.down j p hj hdone e he K.2
   rw [pj K.1]at d
   rw [d]at hun'
   cases hun'
 clear Y X
 intro k t hk
 unfold wN at hk
 induction needs with
 |nil=>simp [jG,cu]at hk
 |cons n needs ih=>
  simp only [DE]at hk
  unfold jG cu at hk
  by_cases K:Nat.beq n.slot k=true
  ·have hb' :Nat.beq (n.at σ).slot k=true:=K
   rw [hb']at hk
   have:=pj K
   subst this
   have h9:some (n.at σ).ty=some t:=by simpa using hk
   have e:n.ty σ=t:=qp h9
   rw [<-e]
   exact key n (nA ..)
  ·rw [Ah]at K
   have hb' :Nat.beq (n.at σ).slot k=false:=K
   rw [hb']at hk
   exact ih (fun m hm=>key m (pp _ hm)) hk
def WD.step{σ' :Nat->OI}(h:WD E G L ts Ss es done a w S σ){i:Nat}{p0:TS}{C:Nat->Prop}(hi:L[i]? =some o)(hdN: ∀h3,o.dst=some h3->h3<E.N.n)(hs2: ∀h3,o.dst=some h3-> ∀j p,L[j]? =some p->done.getD j false=true->p.dst=some h3->i=j)(hwait: ∀e∈o.after,Region.binds .any e=true->done.getD e.on false=true)(D:ts[i]? =some p0)(hun:done.getD i true=false)(hdep: ∀k∈p0.1,k=i\/done.getD k false=true)(hext:kh C w S w' S')(hC: ∀b,C b->E.base<=b\/E.B b)(hsat:mt w' S')(hown:er E.base E.B w' S' (QM Ss (FY es (done.setIfInBounds i true)) σ'))(hσ: ∀k,k≠i->σ' k=σ k)(hv:(p0.at σ').p S' v):
  WD E G L ts Ss es (done.setIfInBounds i true) (a.put o.dst v) w' S' σ' :=by
 have hlt:i<done.size:=by rw [h.dsz];exact(sf.1 hi).1
 have hset: ∀j,(done.setIfInBounds i true).getD j false=true->j=i\/done.getD j false=true:=fun j hj=>by
  by_cases hij:i=j
  ·exact .inl hij.symm
  ·rw [wG false hij]at hj;exact .inr hj
 have hseti:(done.setIfInBounds i true).getD i false=true:=by simp [hlt]
 have hun' :done.getD i false=false:=by simp [hlt]at hun ⊢;exact hun
 have hput: ∀k,(∀h3,o.dst=some h3->h3≠k)->(a.put o.dst v).tmps.getD k undef=a.tmps.getD k undef:=fun k hk=>by
  cases hd:o.dst with
  |none=>rfl
  |some h3=>
   have hda:h3<a.tmps.size:=by rw [h.size];exact hdN h3 hd
   rw [uh hda,aR (hk h3 hd)]
 refine⟨h.ext.step hext hC,hsat,hown,?_,?_,by simp [h.dsz],fun j p hj hdone e he K=>?_,fun k u hk hno=>?_,fun j p d' u hj hdone hd' hu=>?_,fun j u hj hu k hk=>?_⟩
 ·cases o.dst with
  |none=>exact h.size
  |some h3=>simp [Act.put,h.size]
 ·cases o.dst with
  |none=>exact h.defers
  |some h3=>exact h.defers
 ·rcases hset j hdone with rfl|hj'
  ·rw [hi]at hj
   have:o=p:=by simpa using hj
   subst this
   exact yR (hwait e he K)
  ·exact yR (h.down j p hj hj' e he K)
 ·rw [hput k fun h3 hd e=>hno i o hi hseti (by rw [hd,e])]
  exact u.mono hext.keep (h.old k u hk fun j p hj hdone=>hno j p hj (yR hdone))
 ·by_cases hij:j=i
  ·subst hij
   rw [hi]at hj
   have:o=p:=by simpa using hj
   subst this
   have hda:d' <a.tmps.size:=by rw [h.size];exact hdN d' hd'
   rw [hd',uh hda,bh rfl]
   rw [D]at hu
   have:p0=u:=by simpa using hu
   subst this
   exact hv
  ·have hj' :=(hset j hdone).resolve_left hij
   rw [hput d' fun h3 hd e=>by subst e;exact hij (hs2 h3 hd j p hj hj' hd').symm]
   have e1:u.at σ' =u.at σ:=congrArg u.2 (F9 fun k hk=>hσ k fun e=>by
     subst e
     rw [h.deps j u hj' hu k hk]at hun';cases hun')
   rw [e1]
   exact Ty.mono _ hext.keep (h.new j p d' u hj hj' hd' hu)
 ·rcases hset j hj with rfl|hj'
  ·rw [D]at hu
   have:p0=u:=by simpa using hu
   subst this
   rcases hdep k hk with rfl|h'
   ·exact hseti
   ·exact yR h'
  ·exact yR (h.deps j u hj' hu k hk)
end
def Jr{l t:List Oper}{ts:List TS}{Ss:Za}(hsl:xl E.N.n [] l=true)(hlen:ts.length=l.length)(hesl:es.length=l.length)(hd:DT E G (l++t) ts Ss es 0 l es)(D:y5 (l++t) l.length t.length=true)(hQ: ∀a w S σ,St E (QM Ss (C9 es) σ) (JZ l (TA ts σ) G) a w S->wpListIn (fw E.r) 0 E.P (l++t).toArray bx t a w):
  ∀(fuel:Nat) (done:Array Bool) (a:Act) (w:World) (S:SH) (σ:Nat->OI),lR done=fuel->(∀j,l.length<=j->done.getD j false=false)->WD E G (l++t) ts Ss es done a w S σ->wpAnyIn (fw E.r) 0 E.P .any (l++t).toArray bx fuel done a w:=by
 have hL1: ∀i o,i<l.length->(l++t)[i]? =some o->l[i]? =some o:=fun i o hi h=>by rwa [Al hi]at h
 have hL2: ∀i o,l[i]? =some o->(l++t)[i]? =some o:=fun i o h=>by rw [Al (sf.1 h).1];exact h
 have htail: ∀m o,l.length<=m->(l++t)[m]? =some o->wu (l++t) m=true/\eE m o=true:=fun m o hm ho=>by
  have hml:m<(l++t).length:=(sf.1 ho).1
  rw [kw]at hml
  unfold y5 at D
  have:=kQ.1 D (m-l.length) (by simp;omega)
  rw [show l.length+(m-l.length)=m from by omega,ho]at this
  simp only [lq]at this
  exact⟨this.1,this.2.1⟩
 have hget:=fun i o (hi:l[i]? =some o)=>DT.get l es 0 hd i o hi
 have hedge: ∀i o,(l++t)[i]? =some o->eE i o=true:=fun i o hi=>by
  rcases nS i l.length with h|h
  ·obtain⟨_,_,_,_,_,_,_,h,_⟩:=hget i o (hL1 i o h hi)
   simpa using h
  ·exact(htail i o h hi).2
 obtain⟨hs1,hs2⟩:=Cz l [] hsl
 have fin: ∀fuel done a w S σ,lR done=fuel->(∀j,l.length<=j->done.getD j false=false)->WD E G (l++t) ts Ss es done a w S σ->(∀i,i<l.length->done.getD i false=true)->wpAnyIn (fw E.r) 0 E.P .any (l++t).toArray bx fuel done a w:=by
  intro fuel done a w S σ hu hfree h hall
  have hdn:FY es done=C9 es:=by
   unfold FY C9
   refine List.filter_congr fun k hk=>?_
   rw [hall k (by rw [<-hesl];exact List.mem_range.1 hk),Bool.and_true]
  have hown:=h.own
  rw [hdn]at hown
  refine zw (n:=l.length) (fun m o hm ho=>(htail m o hm ho).1) hedge t l.length done fuel a w (eg _) (by simp) h.dsz (fun j hj=>⟨fun hjd=>?_,fun hlt=>hall j hlt⟩) hu
   (hQ a w S σ ⟨h.ext,h.sat,hown,h.size,h.defers,fun j u hj=>?_⟩)
  ·rcases nS j l.length with h' |h'
   ·exact h'
   ·rw [hfree j h']at hjd;cases hjd
  ·rcases GQ l (TA ts σ) j u (by unfold TA;rw [F5];exact hlen) hj with⟨i,o,Y,X,d⟩|⟨Y,X⟩
   ·unfold TA at d
    rw [Jf]at d
    cases hf:ts[i]? with
    |none=>rw [hf]at d;simp at d
    |some f=>
     rw [hf]at d
     have e:f.at σ=u:=by simpa using d
     rw [<-e]
     exact h.new i o j f (hL2 i o Y) (hall i (sf.1 Y).1) X hf
   ·refine h.old j u Y fun i o ho hdn=>?_
    rcases nS i l.length with h' |h'
    ·exact X o (s5 (hL1 i o h' ho))
    ·rw [hfree i h']at hdn;cases hdn
 have lower: ∀done a w S σ i,(∀j,l.length<=j->done.getD j false=false)->WD E G (l++t) ts Ss es done a w S σ->i∈Region.ready .any (l++t).toArray done->l.length<=i-> ∀j,j<l.length->done.getD j false=true:=by
  intro done a w S σ i hfree h hi hge j hj
  obtain⟨hun,p,hp,hwait⟩:=s8.1 hi
  have hp' :(l++t)[i]? =some p:=by simpa using hp
  have hcov:=(htail i p hge hp').1
  unfold wu at hcov
  have hre:=kQ.1 hcov j (by simp;omega)
  exact gA h.down _ i j (fun q hq e he K=>by
   have:q=p:=by rw [hp']at hq;simpa using hq.symm
   subst this
   exact hwait e he K) hre
 intro fuel
 induction fuel with
 |zero=>
  intro done a w S σ hu hfree h
  exact fin 0 done a w S σ hu hfree h fun i hi=>uc hu (by rw [h.dsz,kw];omega)
 |succ fuel ih=>
  intro done a w S σ hu hfree h
  by_cases hall: ∀i,i<l.length->done.getD i false=true
  ·exact fin _ done a w S σ hu hfree h hall
  have hready0: ∀m i,i<m->i<l.length->Region.ready .any (l++t).toArray done=[]->done.getD i false=true:=by
   intro m
   induction m with
   |zero=>intro i h;omega
   |succ m ihm=>
    intro i him hil hr
    have his:i<done.size:=by rw [h.dsz,kw];omega
    by_cases hdn:done.getD i true=true
    ·rw [<-oZ his];exact hdn
    ·exfalso
     obtain⟨o,ho⟩: ∃o,(l++t)[i]? =some o:=⟨l[i],hL2 i _ (tM hil)⟩
     have hmem:i∈Region.ready .any (l++t).toArray done:=by
      rw [s8]
      refine⟨by simpa using hdn,o,by simpa using ho,fun e he K=>?_⟩
      have:=hedge i o ho
      unfold eE at this
      have:=kQ.1 this e (by simpa using he)
      simp only [K,sm,uH,uG]at this
      exact ihm e.on (by omega) (by omega) hr
     rw [hr]at hmem;cases hmem
  refine⟨fun hr=>absurd (fun i hi=>hready0 (i+1) i (by omega) hi hr) hall,fun i hi=>?_⟩
  have hil:i<l.length:=by
   rcases nS i l.length with h' |h'
   ·exact h'
   ·exact absurd (lower done a w S σ i hfree h hi h') hall
  obtain⟨hun,o,ho,hwait⟩:=s8.1 hi
  have ho' :(l++t)[i]? =some o:=by simpa using ho
  have hol:=hL1 i o hil ho'
  obtain⟨e,he,needs,u,Y,X,d,_,h4,h5⟩:=hget i o hol
  rw [uX]at Y d h4
  have hF:=h.need ho' hun hwait X d
  have his:i<done.size:=by rw [h.dsz,kw];omega
  have hun' :done.getD i false=false:=by rw [<-oZ his];exact hun
  have hu' :lR (done.setIfInBounds i true)=fuel:=by have:=q9 hun;omega
  have huq: ∀h3,o.dst=some h3-> ∀j p,(l++t)[j]? =some p->done.getD j false=true->p.dst=some h3->i=j:=fun h3 hdd j p hj hjd hpd=>by
   rcases nS j l.length with h' |h'
   ·exact hs2 i j o p h3 hol (hL1 j p h' hj) hdd hpd
   ·rw [hfree j h']at hjd;cases hjd
  have hfree' : ∀j,l.length<=j->(done.setIfInBounds i true).getD j false=false:=fun j hj=>by
   rw [wG false (by omega)];exact hfree j hj
  have hbl:E.base<=w.heap.size:=h.ext.size
  have hwaits: ∀q,(l++t)[i]? =some q-> ∀e∈q.after,Region.binds .any e=true->done.getD e.on false=true:=fun q hq e he K=>by
   have:q=o:=by rw [ho']at hq;simpa using hq.symm
   subst this
   exact hwait e he K
  have hdpp: ∀k∈u.1,k=i\/done.getD k false=true:=fun k hk=>by
   have:=kQ.1 h4 k hk
   simp only [lq,yS]at this
   rcases this.2 with K|K
   ·exact .inl (pj K)
   ·exact .inr (gA h.down _ i k hwaits K)
  have hdNN: ∀h3,o.dst=some h3->h3<E.N.n:=fun h3 hd=>(hs1 o (s5 hol) h3 hd).1
  unfold wpOpIn
  rw [ho]
  show if _ then _ else _
  -- just these effects stand
  have hpos:noE (l++t) es i (FY es done)=false:=by
   rw [DF]
   intro hno
   unfold noE at hno
   rw [yS]at hno
   rcases hno with hc|hc
   ·have:=(AX.1 (Jh.1 hc)).2
    rw [this]at hun';cases hun'
   ·obtain⟨k,hk1,hk2⟩:=DC.1 hc
    have hke:es[k]? =some true:=by
     unfold C9 at hk1
     rw [List.mem_filter,List.mem_range]at hk1
     have h7:=hk1.2
     rw [tM hk1.1]at h7 ⊢
     simpa using h7
    by_cases hin:(FY es done).contains k=true
    ·rw [bh hin,yS]at hk2
     have hkd:=(AX.1 (Jh.1 hin)).2
     rcases hk2 with K|K
     ·have:=gA h.down _ k i (fun q hq e he K=>h.down k q hq hkd e he K) K
      rw [this]at hun';cases hun'
     ·obtain⟨j,hj1,hj2⟩:=DC.1 K
      rw [lq,CW]at hj2
      have hje:es[j]? =some true:=by
       unfold C9 at hj1
       rw [List.mem_filter,List.mem_range]at hj1
       have h7:=hj1.2
       rw [tM hj1.1]at h7 ⊢
       simpa using h7
      have hjd:=gA h.down _ k j (fun q hq e he K=>h.down k q hq hkd e he K) hj2.2
      have:=Jh.2 (AX.2 ⟨hje,hjd⟩)
      rw [hj2.1]at this;cases this
    ·rw [aR hin]at hk2
     have hkd:=gA h.down _ i k hwaits hk2
     exact hin (Jh.2 (AX.2 ⟨hke,hkd⟩))
  have hwin: ∀aas:List (List Nat),O8 (l++t) es i aas=true->FY es done∈aas:=by
   intro aas hw
   unfold O8 at hw
   have:=kQ.1 hw _ (S9 es done)
   rw [hpos,uH]at this
   obtain⟨b,hb1,hb2⟩:=DC.1 this
   rw [<-MW hb2];exact hb1
  cases e with
  |false=>
   simp only at h5
   obtain⟨hdS,aas,hw,h5⟩:=h5
   rw [uX]at hw
   obtain⟨h3,hdd⟩:=Np.1 hdS
   have h6:=h5.mem _ (hwin aas hw) σ a w S h.sat h.own hF
   have hdq:=Qk (done:=done) he
   by_cases hw:Region.wanted o (yielded (l++t).toArray a.tmps)=true
   ·rw [bh hw]at h6 ⊢
    refine lE (fun a' w' ⟨v,S',ha,V,hs,hv⟩=>?_) h6
    subst ha
    exact ih _ _ _ S' _ hu' hfree' (h.step ho' hdNN huq hwait Y hun hdpp V (fun _ K=>K.elim) hs (by rw [hdq];exact h.own.ext0 V) (fun _ _=>rfl) hv)
   ·rw [aR hw]at h6 ⊢
    exact⟨fun _ _=>trivial,ih _ _ _ S _ hu' hfree' (h.step ho' hdNN huq hwait Y hun hdpp (jn tY _ _) (fun _ K=>K.elim) h.sat (by rw [hdq];exact h.own) (fun _ _=>rfl) h6)⟩
  |true=>
   simp only [uX]at h5
   obtain⟨aas,hw,hins,h5⟩:=h5
   obtain⟨p,hp1,hp2⟩:=Ao.1 (hwin _ hw)
   have hp3:=MW (kQ.1 hins p hp1)
   have h6:=h5.mem p hp1 σ a w S h.sat (by rw [hp2];exact h.own) hF hbl
   have hdq:FY es (done.setIfInBounds i true)=p.2:=by rw [Vw he his,<-hp2,hp3]
   by_cases hw:Region.wanted o (yielded (l++t).toArray a.tmps)=true
   ·rw [bh hw]at h6 ⊢
    refine lE (fun a' w' ⟨v,S',x,ha,V,hs,hown,hv⟩=>?_) h6
    subst ha
    exact ih _ _ _ S' _ hu' hfree' (h.step ho' hdNN huq hwait Y hun hdpp V (fun b ⟨f,hf,K⟩=>(er.mem h.own f (by rw [<-hp2];exact hf)).2 b K) hs (by rw [hdq];exact hown) (fun k hk=>HC σ x hk) hv)
   ·rw [aR hw]at h6 ⊢
    obtain⟨x,hown,hv⟩:=h6
    exact⟨fun _ _=>trivial,ih _ _ _ S _ hu' hfree' (h.step ho' hdNN huq hwait Y hun hdpp (jn tY _ _) (fun _ K=>K.elim) h.sat (by rw [hdq];exact hown) (fun k hk=>HC σ x hk) hv)⟩
def Lg{id:Nat}(m:Nat)(ts:List TS)(es:List Bool)(Ss:Za)(hO: ∀σ,QM Ss [] σ=O)(hm:E.P.follows .mixedOrders=true)(hsl:xl E.N.n [] (L.take m)=true)(hlen:ts.length=(L.take m).length)(hesl:es.length=(L.take m).length)(D:y5 L (L.take m).length (L.drop m).length=true)(hd:DT E G L ts Ss es 0 (L.take m) es)(k: ∀σ:Nat->OI,RG E L.toArray bx (L.drop m) (QM Ss (C9 es) σ) (JZ (L.take m) (TA ts σ) G)):CG E bx (.region id L.toArray true) O G:=fun a w S st=>by
 have hL:L=L.take m++L.drop m:=(s6 m L).symm
 generalize L.take m=l at hL hsl hlen hesl D hd k
 generalize L.drop m=t at hL D k
 subst hL
 refine wpIn_region_any hm ?_
 obtain⟨he,hs⟩:=yl (w:=w) st.sat
 have hdn0:FY es (Array.replicate (l++t).toArray.size false)=[]:=by
  unfold FY
  refine List.filter_eq_nil_iff.2 fun k hk=>?_
  simp [zt]
  intro _
  split<;>simp
 refine Jr hsl hlen hesl hd D (fun a w S σ st=>k σ a w S st) _ _ _ _ S (fun _=>jK) ?_ (fun j _=>?_)
  ⟨st.ext.step0 he,hs,by rw [hdn0,hO];exact st.own.ext0 he,st.facts.size,st.facts.defers,by simp,fun j o hj hdone=>?_,fun k t hk _=>st.facts.at_ k t hk,fun j o h3 t hj hdone=>?_,fun j p hdone=>?_⟩
 ·unfold lR;rw [Nm,Nk];simp
 ·simp [zt];split<;>rfl
 ·simp [zt]at hdone
  split at hdone<;>simp at hdone
 ·simp [zt]at hdone
  split at hdone<;>simp at hdone
 ·simp [zt]at hdone
  split at hdone<;>simp at hdone

variable{base:Nat}
def er.perm{B:Nat->Prop}(h:O.Perm O'):er base B w S O->er base B w S O' :=by
 induction h with
 |nil=>exact id
 |cons x p ih=>
  rintro⟨Y,X,d⟩
  exact⟨Y,fun f hf=>X f (p.mem_iff.2 hf),ih d⟩
 |swap x y l=>
  rintro⟨Y,X,d,h4,h5⟩
  refine⟨d,fun f hf k hk hfk=>?_,Y,fun f hf=>X f (pp _ hf),h5⟩
  rcases jf.1 hf with rfl|hf
  ·exact X x (nA ..) k hfk hk
  ·exact h4 f hf k hk hfk
 |trans _ _ ih1 ih2=>exact fun k=>ih2 (ih1 k)
def uj(O:List OE):List Nat->List OE
 |[]=>[]
 |i::l=>match O[i]? with
  |some e=>e::uj O l
  |none=>uj O l
def AL(O:List OE): ∀a b:List Nat,uj O (a++b)=uj O a++uj O b
 |[],_=>rfl
 |i::a,b=>by
  simp only [Fw,uj]
  split<;>simp [AL O a b]
def L7{a b:List Nat}(h:a.Perm b):(uj O a).Perm (uj O b):=by
 induction h with
 |nil=>exact .nil
 |cons x p ih=>
  simp only [uj]
  split
  ·exact .cons _ ih
  ·exact ih
 |swap x y l=>
  simp only [uj]
  cases V:O[x]? <;>cases hy:O[y]? <;>simp<;>exact .swap ..
 |trans _ _ ih1 ih2=>exact ih1.trans ih2
def JU(O:List OE):uj O (List.range O.length)=O:=by
 have key: ∀n,n<=O.length->uj O (List.range n)=O.take n:=by
  intro n
  induction n with
  |zero=>intro _;rfl
  |succ n ih=>
   intro h
   rw [List.range_succ,AL,ih (by omega)]
   simp only [uj]
   rw [tM (by omega),QO (by omega)]
 rw [key _ (eg _),DB]
def er.pick{B:Nat->Prop}(l:List Nat)(hl:l.isPerm (List.range O.length)=true)(h:er base B w S O):er base B w S (uj O l):=
 h.perm (by
  have:=L7 (O:=O) (List.isPerm_iff.1 hl)
  rw [JU]at this
  exact this.symm)

section
section
variable{ty:TypeId}
end
end
open Go.ChangeShapes Go.WideShapes Go.ChangeAt

variable{hg:Type}{W:World}{enc:TypeId×Value->hg}
section
def Kg(W:World):SH:=fun b=>W.heap[b]?
def Xf(W:World)(H: ∀p∈Z3,∃c T fr,W.heap[p.1]? =some (.cells c T fr)/\c.toList.take p.2.length=p.2)(D: ∀w' :World,(∀(b:Nat) (o:Obj),W.heap[b]? =some o-> ∃o',w'.heap[b]? =some o' /\Jb o o')->ZJ w'):mt W (Kg W):=⟨fun _ o h=>⟨o,h,tu o⟩,H,D⟩
def wQ(enc:TypeId×Value->hg)(P:Program)(W:World){α:Type}(t:TypeId)(r:Rp α):Prop:=
 P.cellsOf t=r.sz/\ ∀fuel cs x,DataW.trod enc P W 0 (fun _=>true) true fuel t cs=some x-> ∃y,r.rc (Kg W) cs y
def Rc(h:P.underlying t=some .bool)(hc:P.cellsOf t=1):wQ enc P W t rB:=⟨hc,fun fuel cs x V=>by
 cases fuel with
 |zero=>simp [DataW.trod]at V
 |succ n=>
  unfold DataW.trod at V
  rw [h]at V
  split at V
  all_goals try (injections;done)
  ·exact⟨_,rfl⟩⟩
def vn{α β:Type}{f:α->Option β}: ∀{l:List α} {r:List β},l.mapM f=some r->r.length=l.length/\ ∀(i:Nat) (x:α),l[i]? =some x-> ∃y,r[i]? =some y/\f x=some y
 |[],r,h=>by
  simp at h
  subst h
  exact⟨rfl,fun i x V=>by simp at V⟩
 |a::l,r,h=>by
  rw [List.mapM_cons]at h
  cases hf:f a with
  |none=>rw [hf]at h;simp at h
  |some b=>
   rw [hf]at h
   cases hm:l.mapM f with
   |none=>rw [hm]at h;simp at h
   |some r' =>
    rw [hm]at h
    simp at h
    subst h
    obtain⟨Y,X⟩:=vn hm
    refine⟨by simp [Y],fun i x V=>?_⟩
    cases i with
    |zero=>simp at V;subst V;exact⟨b,rfl,hf⟩
    |succ i=>exact X i x (by simpa using V)
def Ce{a:Addr}(h:W.cell? a=some v):a.spot=none/\ ∃c E fr,W.heap[a.block]? =some (.cells c E fr)/\c[a.off]? =some v:=by
 unfold World.cell? at h
 cases ho:W.heap[a.block]? with
 |none=>rw [ho]at h;cases h
 |some o=>
  rw [ho]at h
  cases o with
  |cells c E fr=>
   simp only at h
   by_cases hs:a.spot.isSome=true
   ·rw [bh hs]at h;cases h
   ·rw [aR hs]at h
    exact⟨by cases hq:a.spot with
     |none=>rfl
     |some ae=>rw [hq]at hs;simp at hs,c,E,fr,rfl,h⟩
  |_=>simp at h
def Hi(a:Addr):a.add 0=a:=by unfold Addr.add;rfl
def M3(h:W.cells? 0 ⟨b,off,none⟩ n=some cs)(hn:0<n): ∃c E fr,W.heap[b]? =some (.cells c E fr)/\cs=(c.toList.drop off).take n:=by
 unfold World.cells? at h
 rw [bh (pq _)]at h
 obtain⟨Y,X⟩:=vn h
 obtain⟨v,_,hv⟩:=X 0 0 (by simp [hn])
 obtain⟨_,c,E,fr,d,h4⟩:=Ce hv
 refine⟨c,E,fr,by simpa [Addr.add] using d,?_⟩
 apply List.ext_getElem?
 intro i
 have hl:cs.length=n:=by simpa using Y
 by_cases hi:i<n
 ·obtain⟨v,h5,h6⟩:=X i i (by simp [hi])
  obtain⟨_,c',E',fr',h7,h8⟩:=Ce h6
  rw [jl]at h7 h8
  have h7' :W.heap[b]? =some (.cells c' E' fr'):=h7
  have h3' :W.heap[b]? =some (.cells c E fr):=by simpa [Addr.add] using d
  rw [h3']at h7'
  injection h7' with h7'
  injection h7' with e1
  subst e1
  rw [h5,yU hi,vH]
  simpa using h8.symm
 ·rw [DL (by omega),DL (by simp;omega)]
def Pb{q:Rp α}{len:Nat}{a:Addr}{x:DataW hg×List MemPlace}(h0' :0<q.sz)(hq:wQ enc P W e q)(V:(let elemAt (i:Nat):Option (DataW hg×List MemPlace):=(W.cells? 0 (a.add (i*P.cellsOf e)) (P.cellsOf e)).bind (DataW.trod enc P W 0 (fun _=>true) true n e)
   if 0<=a.block/\len<=cap/\cap<=maxLen then
    ((List.range len).mapM elemAt).bind fun elems=>
     (if(fun _=>true) a.block then(List.range (cap-len)).mapM fun j=>elemAt (len+j)else some []).map fun rest=>
      (DataW.slice (elems.map (·.1)) (rest.map (·.1)),MemPlace.row a ((elems.length+rest.length)*P.cellsOf e)++(elems++rest).flatMap (·.2))
   else none)=some x): ∃y,(fW q).rc (Kg W) [.slice (some a) len cap] y:=by
 simp only at V
 split at V
 ·rename_i hcond
  obtain⟨_,hle,hmax⟩:=hcond
  cases hm:(List.range len).mapM (fun i=>(W.cells? 0 (a.add (i*P.cellsOf e)) (P.cellsOf e)).bind (DataW.trod enc P W 0 (fun _=>true) true n e))with
  |none=>rw [hm]at V;simp at V
  |some elems=>
   obtain⟨hm1,hm2⟩:=vn hm
   rw [hq.1]at hm2
   by_cases hl0:len=0
   ·subst hl0;exact⟨[],some a,cap,rfl,pq _,hmax,.inl rfl⟩
   have hsp0:a.spot=none:=by
    obtain⟨z,_,hz⟩:=hm2 0 0 (by rw [List.getElem?_range (by omega)])
    rw [Nat.zero_mul,Hi]at hz
    cases hcs:W.cells? 0 a q.sz with
    |none=>rw [hcs]at hz;simp at hz
    |some cs1=>
     unfold World.cells? at hcs
     rw [bh (pq _)]at hcs
     obtain⟨_,g2⟩:=vn hcs
     obtain⟨v,_,hv⟩:=g2 0 0 (by simp [h0'])
     rw [Hi]at hv
     exact(Ce hv).1
   have hcell: ∀i,i<len-> ∃c E fr,a.spot=none/\W.heap[a.block]? =some (.cells c E fr)/\ ∃y,q.rc (Kg W) ((c.toList.drop (a.off+i*q.sz)).take q.sz) y:=by
    intro i hi
    obtain⟨z,_,hz⟩:=hm2 i i (by simp [hi])
    cases hcs:W.cells? 0 (a.add (i*q.sz)) q.sz with
    |none=>rw [hcs]at hz;simp at hz
    |some cs1=>
     rw [hcs]at hz
     have hsp:a.spot=none:=hsp0
     obtain⟨ab,ao,az⟩:=a
     simp only at hsp
     subst hsp
     rw [jl]at hcs
     obtain⟨c,E,fr,g1,g2⟩:=M3 hcs h0'
     obtain⟨y,hy⟩:=hq.2 n cs1 z hz
     exact⟨c,E,fr,rfl,g1,y,by rw [<-g2];exact hy⟩
   obtain⟨c,E,fr,hsp,K,_⟩:=hcell 0 (by omega)
   have key: ∀m,m<=len-> ∃ys:List α,ys.length=m/\q0 q (Kg W) ((c.toList.drop a.off).take (m*q.sz)) ys:=by
    intro m
    induction m with
    |zero=>intro _;exact⟨[],rfl,by simp [q0]⟩
    |succ m ih=>
     intro hm'
     obtain⟨ys,hy1,hy2⟩:=ih (by omega)
     obtain⟨c',E',fr',_,hb',y,hy⟩:=hcell m (by omega)
     rw [K]at hb'
     injection hb' with hb'
     injection hb' with e1
     subst e1
     refine⟨ys++[y],by simp [hy1],?_⟩
     have hsplit:(c.toList.drop a.off).take ((m+1)*q.sz)=(c.toList.drop a.off).take (m*q.sz)++(c.toList.drop (a.off+m*q.sz)).take q.sz:=by
      rw [w8,Nat.one_mul,List.take_add,sn]
     rw [hsplit]
     exact rf hy2 (LZ.2 hy)
   obtain⟨ys,hy1,hy2⟩:=key len (eg _)
   obtain⟨ab,ao,az⟩:=a
   simp only at hsp
   subst hsp
   exact⟨ys,some ⟨ab,ao,none⟩,cap,by rw [hy1],by omega,hmax,.inr ⟨ab,ao,c,E,fr,rfl,K,by rw [hy1];exact hy2⟩⟩
 ·cases V
def oM{q:Rp α}(h:P.underlying t=some (.slice e))(hc:P.cellsOf t=1)(h0:Nat.blt 0 q.sz=true)(hq:wQ enc P W e q):wQ enc P W t (fW q):=⟨hc,fun fuel cs x V=>by
 have h0' :0<q.sz:=by simpa [uG] using h0
 cases fuel with
 |zero=>simp [DataW.trod]at V
 |succ n=>
  unfold DataW.trod at V
  rw [h]at V
  split at V
  all_goals try (injections;done)
  ·exact⟨[],none,0,rfl,eg _,pq _,.inl rfl⟩
  ·rename_i e' a len cap heq
   injection heq with e1
   injection e1 with e1
   subst e1
   exact Pb h0' hq V⟩
def VV(enc:TypeId×Value->hg)(P:Program)(W:World){α:Type}(off:Nat)(l:List (TypeId×Nat))(r:Rp α):Prop:=
 ∀(fuel:Nat) (cs:List Value),cs.length=off+r.sz->(∀f∈l,∃x,DataW.trod enc P W 0 (fun _=>true) true fuel f.1 ((cs.drop f.2).take (P.cellsOf f.1))=some x)-> ∃y,r.rc (Kg W) (cs.drop off) y
def ou{t:Nat}(h:wQ enc P W t r):VV enc P W off [(t,off)] r:=fun fuel cs hl V=>by
 obtain⟨x,V⟩:=V _ (List.mem_singleton_self _)
 simp only at V
 rw [h.1,tS (by simp;omega)]at V
 exact h.2 _ _ _ V
def cP{p:Rp α}{t off' :Nat}{l:List (TypeId×Nat)}(h:wQ enc P W t p)(ho:off' =off+p.sz)(hr:VV enc P W off' l q):VV enc P W off ((t,off)::l) (cq p q):=fun fuel cs hl V=>by
 subst ho
 obtain⟨x,hx1⟩:=V _ (nA ..)
 simp only at hx1
 rw [h.1]at hx1
 obtain⟨y,hy⟩:=h.2 _ _ _ hx1
 obtain⟨z,hz⟩:=hr fuel cs (by rw [hl];show off+(p.sz+q.sz)=_;omega) fun f hf=>V f (pp _ hf)
 exact⟨(y,z),_,_,by rw [<-sn];exact(s6 _ _).symm,hy,hz⟩
def kX{l:List (TypeId×Nat)}{p:Rp α}{f:β->α}(D:(P.underlying t).map (fun h3=>match h3 with| .struct l=>(true,l.toList.map fun f=>(f.type,f.offset))|_=>(false,[]))=some (true,l))(hc:P.cellsOf t=p.sz)(hf: ∀y,∃x,f x=y)(hl:VV enc P W 0 l p):wQ enc P W t (mZ p f):=⟨hc,fun fuel cs x V=>by
 obtain⟨fs,Y,X⟩: ∃fs,P.underlying t=some (.struct fs)/\fs.toList.map (fun f=>(f.type,f.offset))=l:=by
  cases hu:P.underlying t with
  |none=>rw [hu]at D;cases D
  |some h3=>
   rw [hu]at D
   cases h3<;>simp at D
   exact⟨_,rfl,D⟩
 cases fuel with
 |zero=>simp [DataW.trod]at V
 |succ n=>
  unfold DataW.trod at V
  rw [Y]at V
  change (if cs.length=P.cellsOf t then(fs.toList.mapM fun f=>DataW.trod enc P W 0 (fun _=>true) true n f.type ((cs.drop f.offset).take (P.cellsOf f.type))).map (fun xs=>(DataW.agg (xs.map (·.1)),xs.flatMap (·.2)))else none)=some x at V
  split at V
  ·rename_i hlen
   cases hm:fs.toList.mapM (fun f=>DataW.trod enc P W 0 (fun _=>true) true n f.type ((cs.drop f.offset).take (P.cellsOf f.type)))with
   |none=>rw [hm]at V;simp at V
   |some r=>
    obtain⟨_,hm2⟩:=vn hm
    obtain⟨y,hy⟩:=hl n cs (by rw [hlen,hc];omega) (fun g H=>by
     rw [<-X,Ao]at H
     obtain⟨f0,hf0,rfl⟩:=H
     obtain⟨i,hi⟩:=List.getElem?_of_mem hf0
     obtain⟨z,_,hz⟩:=hm2 i f0 hi
     exact⟨z,hz⟩)
    obtain⟨x',hx'⟩:=hf y
    refine⟨x',?_⟩
    show p.rc _ cs (f x')
    rw [hx']
    simpa using hy
  ·cases V⟩
def IU{W' :World}(h:kh tY W S W' S'):Below W.heap.size W W' :=⟨h.os,h.tape,h.output,h.size,fun k hk=>h.heap k hk (fun h=>h)⟩
def y3(hl:laidOutB P=true){W W' :World}(K:Below W.heap.size W W'){sp:Nat->Bool}: ∀{ts:List TypeId} {vs:List Value} {ds:List (DataW hg)} {ps:List MemPlace},(∀t∈ts,P.readableRec t=true/\t<P.types.size)->
  DataW.TrodAll enc P W 0 (fun _=>true) true ts vs ds ps->(∀p∈ps,p.block<W.heap.size)->(∀p∈ps,sp p.block=true)->DataW.TrodAll enc P W' 0 sp true ts vs ds ps
 |[],[],[],_,_,h,_,_=>h
 |t::ts,v::vs,h3::ds,_,hr,⟨p,q,Y,X,e⟩,hlt,hsp=>by
  subst e
  have D:=hr t (nA ..)
  exact⟨p,q,WideElems.Trod_stays hl D.1 D.2 Y (fun x V=>K.same (hlt x (DK _ V))) (fun x V=>hsp x (DK _ V)),
   y3 hl K (fun t D=>hr t (pp _ D)) X (fun x V=>hlt x (List.mem_append_right _ V)) (fun x V=>hsp x (List.mem_append_right _ V)),rfl⟩
def Se{f:Func}{ae:ChangeSpec}{apart fresh handsOn again:Bool}{W' :World}{args:Array Value}{ds gs:List (DataW hg)}{before:List MemPlace}{tb:TypeId}(hl:laidOutB P=true)(hr: ∀t∈f.params.toList,P.readableRec t=true/\t<P.types.size)(hvs:ae.vars=[])(hres:f.resultTypes= #[tb])(htb:P.underlying tb=some .bool)(hW:DataW.Whole enc P f.params.toList ae.vars apart W args.toList ds gs before)(hs:ae.fn hg (ds++gs)={results:=[.lit (.bool true)],args:=ds})(K:Below W.heap.size W W'):
  ae.post enc P f apart fresh handsOn again W args (.bool true) W' :=by
 have hW0:=hW
 have hlt:=hW.lt
 obtain⟨pa,pv,hA,hV,rfl,hz,hn⟩:=hW
 rw [hvs]at hV
 have hpv:pv=[]:=by
  cases gs with
  |nil=>exact hV
  |cons g gs=>exact hV.elim
 subst hpv
 have hlt' : ∀p∈pa,p.block<W.heap.size:=fun p hp=>hlt p (by simpa using hp)
 have hargs: ∀sp:Nat->Bool,(∀p∈pa,sp p.block=true)->DataW.TrodAll enc P W' 0 sp true f.params.toList args.toList ds pa:=fun sp hsp=>y3 hl K hr hA hlt' hsp
 have hresT: ∀(b:Nat) (sp:Nat->Bool) (hd:Bool),DataW.TrodAll enc P W' b sp hd f.resultTypes.toList ((Value.bool true).resultList f.resultTypes.size) [.lit (.bool true)] []:=fun b sp hd=>by
  rw [hres]
  exact⟨[],[],⟨1,by simp [DataW.trod,htb,Value.cells]⟩,rfl,rfl⟩
 have hvT: ∀sp:Nat->Bool,DataW.TrodVars enc P W' sp ae.vars (ae.fn hg (ds++gs)).vars []:=fun sp=>by
  rw [hvs,hs];rfl
 have hargs' : ∀sp:Nat->Bool,(∀p∈pa,sp p.block=true)->DataW.TrodAll enc P W' 0 sp true f.params.toList args.toList (ae.fn hg (ds++gs)).args pa:=fun sp hsp=>by rw [hs];exact hargs sp hsp
 have hres' : ∀(b:Nat) (sp:Nat->Bool) (hd:Bool),DataW.TrodAll enc P W' b sp hd f.resultTypes.toList ((Value.bool true).resultList f.resultTypes.size) (ae.fn hg (ds++gs)).results []:=fun b sp hd=>by rw [hs];exact hresT b sp hd
 have hold: ∀p∈pa,(fun b=>decide (b<W.heap.size)) p.block=true:=fun p hp=>by simpa using hlt' p hp
 refine⟨ds,gs,pa++[],[],pa,[],hW0,hres' _ _ _,hargs' _ hold,hvT _,World.keptBut_mono (fun p hp=>⟨hp,?_⟩) (K.frame _),fun _=>?_⟩
 ·right;simpa using hp
 ·refine⟨?_,_,_,([]++pa)++[],⟨[]++pa,[],trodAll_append (hargs' _ (fun _ _=>rfl)) (hres' _ _ _),hvT _,rfl,?_,?_⟩,?_⟩
  ·intro j t r Y X
   rw [hres]at Y X
   cases j with
   |zero=>
    simp [Value.resultList]at Y X
    subst Y X
    simp [Value.okWide,htb,Cell.okWide,Cell.ok]
   |succ j=>simp at Y
  ·intro b off hp
   have hp' :MemPlace.cell b off∈pa:=by simpa using hp
   have:=hlt' _ hp'
   rw [K.frozen (p:=⟨b,off,none⟩) this]
   exact hz b off (by simpa using hp')
  ·intro ha
   have:=hn ha
   simpa using this
  ·intro p hp _
   simpa using hp
end

section
def tq{α:Type}(r:Rp α)(ok:α->Prop):Rp α where
 sz:=r.sz
 agg:=r.agg
 rc:=fun S cs x=>r.rc S cs x/\ok x
 mono:=fun h k=>⟨r.mono h k.1,k.2⟩
 len:=fun k=>r.len k.1
 one:=fun k=>r.one k.1
 sc:=r.sc
def oY(k:IntKind)(n:Int):Prop:=k.min<=n/\n<=k.max
def inS(ae:OQ):Prop:=ae.length<=maxLen
def Oa{α:Type}(ok:α->Prop)(xs:List α):Prop:=xs.length<=maxLen/\ ∀x∈xs,ok x
def Wd{α:Type}(_:α):Prop:=True
def xi(h:P.underlying t=some (.int k))(hc:P.cellsOf t=1):wQ enc P W t (tq (rI k) (oY k)):=⟨hc,fun fuel cs x V=>by
 cases fuel with
 |zero=>simp [DataW.trod]at V
 |succ n=>
  unfold DataW.trod at V
  rw [h]at V
  split at V
  all_goals try (injections;done)
  ·rename_i k1 k2 m heq
   injection heq with e
   injection e with e
   subst e
   split at V
   ·rename_i X
    obtain⟨rfl,d⟩:=X
    simp only [Lit.wf,lq,hX]at d
    exact⟨m,rfl,d⟩
   ·cases V⟩
def Rb(h:P.underlying t=some .string)(hc:P.cellsOf t=1):wQ enc P W t (tq rS inS):=⟨hc,fun fuel cs x V=>by
 cases fuel with
 |zero=>simp [DataW.trod]at V
 |succ n=>
  unfold DataW.trod at V
  rw [h]at V
  split at V
  all_goals try (injections;done)
  ·rename_i ae heq
   split at V
   ·rename_i X;exact⟨ae.data.toList,rfl,(show ae.data.toList.length<=maxLen from(show ae.size=ae.data.toList.length from rfl)▸X)⟩
   ·cases V⟩
def Pc(h:P.underlying t=some .bool)(hc:P.cellsOf t=1):wQ enc P W t (tq rB Wd):=
 ⟨hc,fun fuel cs x V=>by obtain⟨y,hy⟩:=(Rc (enc:=enc) (W:=W) h hc).2 fuel cs x V;exact⟨y,hy,trivial⟩⟩
def F0{α:Type}(r' r:Rp α)(ok:α->Prop):Prop:=r'.sz=r.sz/\r'.agg=r.agg/\ ∀S cs x,r'.rc S cs x->r.rc S cs x/\ok x
def gn:F0 (tq r ok) r ok:=⟨rfl,rfl,fun _ _ _ h=>h⟩
def NJ{α:Type}{r' r:Rp α}{ok:α->Prop}(h:F0 r' r ok){S:SH}: ∀{xs:List α} {cs:List Value},q0 r' S cs xs->q0 r S cs xs/\ ∀x∈xs,ok x
 |[],_,k=>⟨k,fun x V=>by cases V⟩
 |x::xs,_,⟨a,b,e,Y,X⟩=>by
  obtain⟨g1,g2⟩:=h.2.2 _ _ _ Y
  obtain⟨g3,g4⟩:=NJ h X
  exact⟨⟨a,b,e,g1,g3⟩,fun y hy=>by
   rcases jf.1 hy with rfl|hy
   ·exact g2
   ·exact g4 y hy⟩
def tk{r' :Rp α}(h:F0 r' r ok):F0 (fW r') (fW r) (Oa ok):=⟨rfl,rfl,fun S cs xs ⟨a,cap,e,Y,X,d⟩=>by
 rcases d with d|⟨b,off,c,E,fr,e1,e2,e3⟩
 ·exact⟨⟨a,cap,e,Y,X,.inl d⟩,by omega,fun x V=>by rw [d]at V;cases V⟩
 ·rw [h.1]at e3
  obtain⟨g1,g2⟩:=NJ h e3
  exact⟨⟨a,cap,e,Y,X,.inr ⟨b,off,c,E,fr,e1,e2,g1⟩⟩,by omega,g2⟩⟩
def dq{p' p:Rp α}{q' :Rp β}{f:α->Prop}{g:β->Prop}(h:F0 p' p f)(k:F0 q' q g):F0 (cq p' q') (cq p q) (fun x=>f x.1/\g x.2):=
 ⟨by show p'.sz+q'.sz=p.sz+q.sz;rw [h.1,k.1],rfl,fun S cs x ⟨a,b,e,Y,X⟩=>⟨⟨a,b,e,(h.2.2 _ _ _ Y).1,(k.2.2 _ _ _ X).1⟩,(h.2.2 _ _ _ Y).2,(k.2.2 _ _ _ X).2⟩⟩
def qz{p' p:Rp α}{f:β->α}(h:F0 p' p ok):F0 (mZ p' f) (mZ p f) (fun x=>ok (f x)):=
 ⟨h.1,rfl,fun S cs x k=>h.2.2 _ _ _ k⟩
def OO{r' :Rp α}(h:wQ enc P W t r')(hr:F0 r' r ok)(hag:r.agg=true){h3:DataW hg}{ps:List MemPlace}(hv:DataW.Trod enc P W 0 (fun _=>true) true t v h3 ps)(hc:v= .agg v.cells): ∃y,(tD r y).p (Kg W) v/\ok y:=by
 obtain⟨fuel,V⟩:=hv
 obtain⟨y,hy⟩:=h.2 _ _ _ V
 obtain⟨g1,g2⟩:=hr.2.2 _ _ _ hy
 exact⟨y,⟨_,by unfold Rp.val;rw [hag,bh rfl];exact hc,g1⟩,g2⟩
def Bk{l:Array Field}(D:P.underlying t=some (.struct l))(hv:Value.okWide P W .any base t v):v= .agg v.cells:=by
 unfold Value.okWide at hv
 rw [D]at hv
 obtain⟨cs,e,_⟩:=hv
 rw [e]
 rfl
end

section
variable{held:Bool}
end

def JP{α:Type}{r:Rp α}(hfree: ∀{S S' :SH} {cs:List Value} {x:α},r.rc S cs x->r.rc S' cs x){S S' :SH}: ∀{xs:List α} {cs:List Value},q0 r S cs xs->q0 r S' cs xs
 |[],_,h=>h
 |_::_,_,h=>by
  obtain⟨ds,es,Y,X,d⟩:=h
  exact⟨ds,es,Y,hfree X,JP hfree d⟩
def ace{l:Option Nat}(h:Aa mm r T l cap xs w S)(hs:mt w S): ∃S1,SH.le S S1/\mt w S1/\(tD (fW r) xs).p S1 (au l cap xs.length):=by
 cases mm with
 |true=>exact⟨S,SH.le_refl _,hs,m8 h⟩
 |false=>
  obtain⟨cells,Y,X,d⟩:=h
  cases l with
  |none=>exact⟨S,SH.le_refl _,hs,m8 (T:=T) ⟨cells,Y,X,fun b K=>(by cases K)⟩⟩
  |some b=>
   obtain⟨cur,g1,g2,g3,g4,g5⟩:=Y
   have hoo:Jb (.cells cells.toArray T (0,0)) (.cells cur T (0,0)):=by
    refine⟨cur.toList.drop (xs.length*r.sz),?_⟩
    congr 1
    apply Array.ext'
    rw [<-g5,s6]
   have hn:S b=none:=d b rfl
   have hle:SH.le S (S.set b (.cells cells.toArray T (0,0))):=vv fun q hq=>(by rw [hn]at hq;cases hq)
   have hsat:mt w (S.set b (.cells cells.toArray T (0,0))):=hs.set g1 hoo fun q hq=>by rw [hn]at hq;cases hq
   refine⟨_,hle,hsat,m8 (T:=T) ⟨cells,⟨cur,g1,g2,g3,g4,g5⟩,rX hle X,fun b' hb' =>?_⟩⟩
   have hb2:b=b' :=qp hb'
   subst hb2
   exact mV _ _ _
section
variable{ty:TypeId}
def DU{S1:SH}{t:Ty}{vs:List Value}(h:t.p S1 v)(k:w7 S1 ts vs):w7 S1 (t::ts) (v::vs):=⟨h,k⟩
def Zn{G:mb}{x:Operand}{t:Ty}{S1:SH}(h:aJ N G x t)(hf:bT N S a G)(hle:SH.le S S1):t.p S1 (a.eval x):=t.mono hle (h S a hf)
def TZ{b:Bool}(S S' :SH)(v:Value)(h:(tD rB b).p S v):(tD rB b).p S' v:=jp.2 (jp.1 h)
end

section
variable{ty:TypeId}
def hH{y:α}{x:Operand}(hag:r.agg=true)(hr: ∀S,r.rc S [v] y)(h:aJ N G x (Z (.agg #[v]))):aJ N G x (tD r y):=fun S a hf=>⟨[v],by rw [Rp.val,bh hag];exact h S a hf,hr S⟩
end

section
variable{N:Nat}{w0:World}{S0:SH}{O1:List OE}{ι:Type}{t:ι->Ty}{O2:ι->List OE}
end
section
variable{c:Code}
end

section
variable{ty:TypeId}
end
section
variable{ty:TypeId}
end

def J{α:Sort _}{a:α}:a=a:=rfl
def aM:True:=trivial
abbrev bC(x:Int):Ty:=tD (rI .i64) x
abbrev gI(x:Bool):Ty:=tD rB x
abbrev nz{α:Type}(l:List α):Ty:=tD (rI .i64) (l.length:Int)
abbrev po:Rp (List Int):=fW (rI .i64)
abbrev pi(l:List Int):Ty:=tD (fW (rI .i64)) l
abbrev d8{α:Type}(r:Rp α)(l:List α):Ty:=tD (fW r) l
abbrev rL{α:Type}(l:Option Nat)(c:Nat)(xs:List α):Ty:=Z (au l c xs.length)
def bo: ∀{G' G:mb},G'.map (fun p=>cu G p.1)=G'.map (fun p=>some p.2)->Ph G' G
 |[],_,_=>trivial
 |(_,_)::_,_,h=>⟨(xe h).1,bo (xe h).2⟩

variable{ix:Nat}{xt:TypeId}
section
variable{ty:TypeId}
def lQ{t:Ty}(h:cu G x=some t):cr E O G ⟨dst,.move (.tmp x),ty,pos,after,g⟩ t:=bQ (D h)
def Jo{t:Ty}(h:cu G x=some t):cr E O G ⟨dst,.assign (.tmp x),ty,pos,after,g⟩ t:=cg (D h)
def zai{n:Int}:cr E O G ⟨dst,.assign (.const (.int k n)),ty,pos,after,g⟩ (tD (rI k) n):=cg hI
def zab{b:Bool}:cr E O G ⟨dst,.assign (.const (.bool b)),ty,pos,after,g⟩ (tD rB b):=cg hB
def BA{x:α}{p:Nat}(ti:TI E.P U sz bytes agg z)(hp:cu G p=some (df r x))(hs:(r.sz,r.agg)=(sz,agg)):
  cr E O G ⟨dst,.load U (.tmp p),ty,pos,after,g⟩ (tD r x):=kE ti (wF hs).1 (wF hs).2 (D hp)
def w6{get:α->β}{x:α}{i:Nat}{p:Nat}(hf:bK E.P T i=some (off,sz))(hq:lC r off q get)(hp:cu G p=some (df r x))(h0:(!(Nat.beq sz 0)&&Nat.ble (off+q.sz) r.sz)=true):cr E O G ⟨dst,.fieldAddr T (.tmp p) i,ty,pos,after,g⟩ (df q (get x)):=
 gB hf (by cases h:Nat.beq sz 0<;>simp [h]at h0 ⊢) hq (by revert h0;cases Nat.ble (off+q.sz) r.sz<;>simp) (D hp)
def WF(hu:E.P.underlying t=some (.slice e))(V:cu G x=some (tD (fW r) xs)):
  cr E O G ⟨dst,.call ⟨.builtin .len,#[.tmp x],#[t]⟩,ty,pos,after,g⟩ (tD (rI .i64) (xs.length:Int)):=mG hu (D V)
def Lq{i:Nat}{t:Ty}(hi:ts[i]? =some t)(V:cu G x=some (tT ts)):cr E O G ⟨dst,.extract (.tmp x) i,ty,pos,after,g⟩ t:=Mk hi (D V)
def zbx{v:α}(V:cu G x=some (tD r v)):cr E O G ⟨dst,.box T (.tmp x),ty,pos,after,g⟩ (df r v):=RY (D V)
def zpa{b q:Bool}(hc:cu G c=some (tD rB b))(V:cu G x=some (oN b (tD rB q))):cr E O G ⟨dst,.pick (.tmp c) (.tmp x) (.const (.bool false)),ty,pos,after,g⟩ (tD rB (b&&q)):=pS (D hc) (fun K=>bL V K)
def Zh{b q:Bool}(hc:cu G c=some (tD rB b))(V:cu G x=some (oN (!b) (tD rB q))):cr E O G ⟨dst,.pick (.tmp c) (.const (.bool true)) (.tmp x),ty,pos,after,g⟩ (tD rB (b||q)):=np (D hc) (fun K=>bL V (vT K))
variable{y:Nat}{m n:Int}
def zlt(V:cu G x=some (tD (rI k) m))(hy:cu G y=some (tD (rI k) n)):cr E O G ⟨dst,.binOp .lss xt (.tmp x) (.tmp y) yt,ty,pos,after,g⟩ (tD rB (decide (m<n))):=iZ (D V) (D hy)
def zei(V:cu G x=some (tD (rI j) m)):cr E O G ⟨dst,.binOp .eql xt (.tmp x) (.const (.int j n)) yt,ty,pos,after,g⟩ (tD rB (m==n)):=d9 (D V) hI
def zni(V:cu G x=some (tD (rI j) m)):cr E O G ⟨dst,.binOp .neq xt (.tmp x) (.const (.int j n)) yt,ty,pos,after,g⟩ (tD rB (m !=n)):=kD (D V) hI
def Nt{y:α}{x:Nat}{k:IntKind}{i:Int}(hu:E.P.underlying t=some (.slice e))(ti:TI E.P e sz bytes agg z)(hsz:r.sz=sz)(V:cu G x=some (tD (fW r) xs))(hi:cu G ix=some (tD (rI k) i))(hy:gR xs i=some y):
  cr E O G ⟨dst,.indexAddr t (.tmp x) (.tmp ix),ty,pos,after,g⟩ (df r y):=vS hu ti hsz (D V) (D hi) hy
def zin{i:Nat}{x:Nat}{xt yt:TypeId}(hi:i<9223372036854775807)(V:cu G x=some (tD (rI .i64) (i:Int))):
  cr E O G ⟨dst,.binOp .add xt (.tmp x) (.const (.int .i64 1)) yt,ty,pos,after,g⟩ (tD (rI .i64) ((i+1:Nat):Int)):=Dl hi (D V) hI
def oK{i o:Nat}{p:Nat}(n:Nat)(hf:bK E.P T i=some (off,sz))(h0:Nat.beq sz 0=false)(hp:cu G p=some (Z (M b o)))(he:o+off=n):cr E O G ⟨dst,.fieldAddr T (.tmp p) i,ty,pos,after,g⟩ (Z (M b n)):=bU (n:=n) hf h0 (D hp) he
end
section
variable{l:List Oper}
def zo{ty:TypeId}{t:Ty}(hd:Nat.blt h3 E.N.n=true)(h:cr E O G ⟨some h3,op,ty,pos,after,none⟩ t)(k:RG E ops bx l O ((h3,t)::G)):
  RG E ops bx (⟨some h3,op,ty,pos,after,none⟩::l) O G:=uD h hd k
def vV(n h3:Nat)(r:Option Ty):Option Ty:=if Nat.blt h3 n then r else none
def dy{r:Option Ty}{t:Ty}(h:vV n h3 r=some t):Nat.blt h3 n=true/\r=some t:=by
 unfold vV at h;split at h
 case isTrue Y=>exact⟨Y,h⟩
 case isFalse=>cases h
def aS{ty:TypeId}{t:Ty}(h:vV E.N.n h3 (cu G x)=some t)(k:RG E ops bx l O ((h3,t)::G)):
  RG E ops bx (⟨some h3,.move (.tmp x),ty,pos,after,none⟩::l) O G:=uD (bQ (D (dy h).2)) (dy h).1 k
def hE{ty:TypeId}{t:Ty}(h:vV E.N.n h3 (cu G x)=some t)(k:RG E ops bx l O ((h3,t)::G)):
  RG E ops bx (⟨some h3,.assign (.tmp x),ty,pos,after,none⟩::l) O G:=uD (cg (D (dy h).2)) (dy h).1 k
def br(h:CG E bx y O G):RG E ops (Exit.then (y.wpIn (fw E.r) 0 E.P bx) bx) [] O G:=aX (aG h)
def a8{id:Nat}{l:List Oper}(h:RG E l.toArray (Exit.then (y.wpIn (fw E.r) 0 E.P bx) bx) l O G):CG E bx (.seq (.region id l.toArray false) y) O G:=aT (aw h)
def jz{β:Type _}{h2 h1:Option β}{r:β}{x:Code}{b:Bool}(h:(if b=true then h2 else h1)=some r)(K:cu G c=some (tD rB b))(V:h2=some r->CG E bx x O G)(hy:h1=some r->CG E bx y O G):CG E bx (.cond (.tmp c) x y) O G:=
 qV (D K) (fun hc=>V (ct h hc)) (fun hc=>hy (cf h hc))
def jg(h:CG E bx y O G):CG E (Exit.then (y.wpIn (fw E.r) 0 E.P bx) bx) .skip O G:=bE (aG h)
def zgt{j gs:Nat}{b:Bool}{ty:TypeId}{t:Ty}(hj:(ops[j]?).bind (·.dst)=some gs)(H:vV E.N.n gs (vV E.N.n h3 (cu G gs))=some (tD rB b))(h:b=true->cr E O G ⟨some h3,op,ty,pos,after,some (j,true)⟩ t)(k:RG E ops bx l O ((h3,oN b t)::G)):RG E ops bx (⟨some h3,op,ty,pos,after,some (j,true)⟩::l) O G:=VO hj (dy H).1 (dy (dy H).2).2 (dy (dy H).2).1 h k
def zgf{j gs:Nat}{b:Bool}{ty:TypeId}{t:Ty}(hj:(ops[j]?).bind (·.dst)=some gs)(H:vV E.N.n gs (vV E.N.n h3 (cu G gs))=some (tD rB b))(h:(!b)=true->cr E O G ⟨some h3,op,ty,pos,after,some (j,false)⟩ t)(k:RG E ops bx l O ((h3,oN (!b) t)::G)):RG E ops bx (⟨some h3,op,ty,pos,after,some (j,false)⟩::l) O G:=VP hj (dy H).1 (dy (dy H).2).2 (dy (dy H).2).1 h k
end
def bM{α:Type _}{β:Type _}{x:Option α}{k:α->Option β}{r:β}{P:Prop}(h:x.bind k=some r)(f: ∀y,x=some y->k y=some r->P):P:=by
 obtain⟨y,Y,X⟩:=bs h;exact f y Y X
variable{u1:Ty}
section
variable{l:List Oper}{i:Nat}{t:Ty}
def Da{a b c:Bool}(h:(a&&b&&c)=true):a=true/\b=true/\c=true:=by revert h;cases a<;>cases b<;>cases c<;>simp
def Z0{x:Option α}(h:x.isNone=true):x=none:=by cases x;rfl;cases h
def zd0(h:ts[i]? =some t)(k:cr E O [] o t)(K:(eE i o&&o.guard.isNone)=true:=by exact rfl): ∃(needs:List Nd) (t:Ty),ts[i]? =some t/\sd G ts needs/\(needs.all (pm l o i))=true/\eE i o=true/\ci E O l.toArray (jG needs) o t:=
 ⟨[],t,h,trivial,rfl,(Jc.1 K).1,ac (Z0 (Jc.1 K).2) k⟩
def Lr(a:Nat)(h:ts[i]? =some t)(hu:yW G ts ⟨a,u,none⟩)(k:cr E O [(a,u)] o t)(K:([(⟨a,u,none⟩:Nd)].all (pm l o i)&&eE i o&&o.guard.isNone)=true:=by exact rfl): ∃(needs:List Nd) (t:Ty),ts[i]? =some t/\sd G ts needs/\(needs.all (pm l o i))=true/\eE i o=true/\ci E O l.toArray (jG needs) o t:=
 ⟨[(⟨a,u,none⟩:Nd)],t,h,⟨hu,trivial⟩,(Da K).1,(Da K).2.1,ac (Z0 (Da K).2.2) k⟩
def gk(a:Nat)(j:Nat)(h:ts[i]? =some t)(hu:yW G ts ⟨a,u,(some j)⟩)(k:cr E O [(a,u)] o t)(K:([(⟨a,u,(some j)⟩:Nd)].all (pm l o i)&&eE i o&&o.guard.isNone)=true:=by exact rfl): ∃(needs:List Nd) (t:Ty),ts[i]? =some t/\sd G ts needs/\(needs.all (pm l o i))=true/\eE i o=true/\ci E O l.toArray (jG needs) o t:=
 ⟨[(⟨a,u,(some j)⟩:Nd)],t,h,⟨hu,trivial⟩,(Da K).1,(Da K).2.1,ac (Z0 (Da K).2.2) k⟩
def TQ(a:Nat)(a1:Nat)(j1:Nat)(h:ts[i]? =some t)(hu:yW G ts ⟨a,u,none⟩)(hu1:yW G ts ⟨a1,u1,(some j1)⟩)(k:cr E O [(a,u),(a1,u1)] o t)(K:([(⟨a,u,none⟩:Nd),⟨a1,u1,(some j1)⟩].all (pm l o i)&&eE i o&&o.guard.isNone)=true:=by exact rfl): ∃(needs:List Nd) (t:Ty),ts[i]? =some t/\sd G ts needs/\(needs.all (pm l o i))=true/\eE i o=true/\ci E O l.toArray (jG needs) o t:=
 ⟨[(⟨a,u,none⟩:Nd),⟨a1,u1,(some j1)⟩],t,h,⟨hu,hu1,trivial⟩,(Da K).1,(Da K).2.1,ac (Z0 (Da K).2.2) k⟩
def Ax(a:Nat)(a1:Nat)(j1:Nat)(h:ts[i]? =some t)(hu:yW G ts ⟨a,u,none⟩)(hu1:yW G ts ⟨a1,u1,(some j1)⟩)(k:ci E O l.toArray [(a,u),(a1,u1)] o t)(K:([(⟨a,u,none⟩:Nd),⟨a1,u1,(some j1)⟩].all (pm l o i)&&eE i o)=true:=by exact rfl): ∃(needs:List Nd) (t:Ty),ts[i]? =some t/\sd G ts needs/\(needs.all (pm l o i))=true/\eE i o=true/\ci E O l.toArray (jG needs) o t:=
 ⟨[(⟨a,u,none⟩:Nd),⟨a1,u1,(some j1)⟩],t,h,⟨hu,hu1,trivial⟩,(Jc.1 K).1,(Jc.1 K).2,k⟩
def kx(a:Nat)(j:Nat)(a1:Nat)(j1:Nat)(h:ts[i]? =some t)(hu:yW G ts ⟨a,u,(some j)⟩)(hu1:yW G ts ⟨a1,u1,(some j1)⟩)(k:cr E O [(a,u),(a1,u1)] o t)(K:([(⟨a,u,(some j)⟩:Nd),⟨a1,u1,(some j1)⟩].all (pm l o i)&&eE i o&&o.guard.isNone)=true:=by exact rfl): ∃(needs:List Nd) (t:Ty),ts[i]? =some t/\sd G ts needs/\(needs.all (pm l o i))=true/\eE i o=true/\ci E O l.toArray (jG needs) o t:=
 ⟨[(⟨a,u,(some j)⟩:Nd),⟨a1,u1,(some j1)⟩],t,h,⟨hu,hu1,trivial⟩,(Da K).1,(Da K).2.1,ac (Z0 (Da K).2.2) k⟩
def uJ(a:Nat)(j:Nat)(a1:Nat)(j1:Nat)(h:ts[i]? =some t)(hu:yW G ts ⟨a,u,(some j)⟩)(hu1:yW G ts ⟨a1,u1,(some j1)⟩)(k:ci E O l.toArray [(a,u),(a1,u1)] o t)(K:([(⟨a,u,(some j)⟩:Nd),⟨a1,u1,(some j1)⟩].all (pm l o i)&&eE i o)=true:=by exact rfl): ∃(needs:List Nd) (t:Ty),ts[i]? =some t/\sd G ts needs/\(needs.all (pm l o i))=true/\eE i o=true/\ci E O l.toArray (jG needs) o t:=
 ⟨[(⟨a,u,(some j)⟩:Nd),⟨a1,u1,(some j1)⟩],t,h,⟨hu,hu1,trivial⟩,(Jc.1 K).1,(Jc.1 K).2,k⟩
def Gd(a:Nat)(j:Nat)(a1:Nat)(j1:Nat)(a2:Nat)(j2:Nat){u2:Ty}(h:ts[i]? =some t)(hu:yW G ts ⟨a,u,(some j)⟩)(hu1:yW G ts ⟨a1,u1,(some j1)⟩)(hu2:yW G ts ⟨a2,u2,(some j2)⟩)(k:ci E O l.toArray [(a,u),(a1,u1),(a2,u2)] o t)(K:([(⟨a,u,(some j)⟩:Nd),⟨a1,u1,(some j1)⟩,⟨a2,u2,(some j2)⟩].all (pm l o i)&&eE i o)=true:=by exact rfl): ∃(needs:List Nd) (t:Ty),ts[i]? =some t/\sd G ts needs/\(needs.all (pm l o i))=true/\eE i o=true/\ci E O l.toArray (jG needs) o t:=
 ⟨[(⟨a,u,(some j)⟩:Nd),⟨a1,u1,(some j1)⟩,⟨a2,u2,(some j2)⟩],t,h,⟨hu,hu1,hu2,trivial⟩,(Jc.1 K).1,(Jc.1 K).2,k⟩
end

def wI{r ae:Option Ty}{t:Ty}(h:(vV n h3 r,ae)=(some t,some u)):Nat.blt h3 n=true/\r=some t/\ae=some u:=
 ⟨(dy (wF h).1).1,(dy (wF h).1).2,(wF h).2⟩
def VZ(G:mb):Operand->Option Ty
 | .tmp k=>cu G k
 | .const (.int k n)=>some (tD (rI k) n)
 | .const (.bool b)=>some (tD rB b)
 |_=>none
def Ly{t:Ty}: ∀{x:Operand},VZ G x=some t->aJ N G x t
 | .tmp _,h=>D h
 | .const (.int _ _),h=>by cases h;exact hI
 | .const (.bool _),h=>by cases h;exact hB
def ea{N:Fr}{G:mb}: ∀{xs:List Operand} {ts:List Ty},xs.map (VZ G)=ts.map some->kL N G xs ts
 |[],[],_=>trivial
 |_::_,_::_,h=>⟨Ly (xe h).1,ea (xe h).2⟩

variable{after2:Array Edge}{d2 id' :Nat}{pos2:String}{tl:List α}{ty2:TypeId}
section
variable{l:List Oper}{ty:TypeId}{t:Ty}
def s(h:cr E O G ⟨some h3,op,ty,pos,after,none⟩ t)(k:RG E ops bx l O ((h3,t)::G))(hd:Nat.blt h3 E.N.n=true:=by exact rfl):
  RG E ops bx (⟨some h3,op,ty,pos,after,none⟩::l) O G:=uD h hd k
def fi{x:α}{p:Nat}(ti:TI E.P U sz bytes agg z)(hp:vV E.N.n h3 (cu G p)=some (df r x))(k:RG E ops bx l O ((h3,tD r x)::G))(hs:(r.sz,r.agg)=(sz,agg):=by exact rfl):RG E ops bx (⟨some h3,.load U (.tmp p),ty,pos,after,none⟩::l) O G:=zo (dy hp).1 (BA ti (dy hp).2 hs) k
def rP{get:α->β}{x:α}{i:Nat}{p:Nat}(hf:bK E.P T i=some (off,sz))(hq:lC r off q get)(hp:vV E.N.n h3 (cu G p)=some (df r x))(k:RG E ops bx l O ((h3,df q (get x))::G))(h0:(!(Nat.beq sz 0)&&Nat.ble (off+q.sz) r.sz)=true:=by exact rfl):
  RG E ops bx (⟨some h3,.fieldAddr T (.tmp p) i,ty,pos,after,none⟩::l) O G:=zo (dy hp).1 (w6 hf hq (dy hp).2 h0) k
def bG{get:α->β}{x:α}{i s2:Nat}{p p2:Nat}(hf:bK E.P T i=some (off,sz))(hq:lC r off q get)(ti:TI E.P U s2 bytes agg z)(hp:vV E.N.n h3 (cu G p)=some (df r x))(k:RG E ops bx l O ((d2,tD q (get x))::(h3,df q (get x))::G))(h0:(!(Nat.beq sz 0)&&Nat.ble (off+q.sz) r.sz)=true:=by exact rfl)(hp2:vV E.N.n d2 (cu ((h3,df q (get x))::G) p2)=some (df q (get x)):=by exact rfl)(hs:(q.sz,q.agg)=(s2,agg):=by exact rfl):
  RG E ops bx (⟨some h3,.fieldAddr T (.tmp p) i,ty,pos,after,none⟩::⟨some d2,.load U (.tmp p2),ty2,pos2,after2,none⟩::l) O G:=rP hf hq hp (fi ti hp2 k hs) h0
def aW{i o:Nat}{p:Nat}(n:Nat)(hf:bK E.P T i=some (off,sz))(hp:vV E.N.n h3 (cu G p)=some (Z (M b o)))(k:RG E ops bx l O ((h3,Z (M b n))::G))(h0:Nat.beq sz 0=false:=by exact rfl)(he:o+off=n:=by exact rfl):RG E ops bx (⟨some h3,.fieldAddr T (.tmp p) i,ty,pos,after,none⟩::l) O G:=zo (dy hp).1 (oK n hf h0 (dy hp).2 he) k
def ek{i:Nat}(V:vV E.N.n h3 (cu G x)=some (tT ts))(hi:ts[i]? =some t)(k:RG E ops bx l O ((h3,t)::G)):RG E ops bx (⟨some h3,.extract (.tmp x) i,ty,pos,after,none⟩::l) O G:=zo (dy V).1 (Lq hi (dy V).2) k
def cM{n:Int}(k:RG E ops bx l O ((h3,tD (rI j) n)::G))(hd:Nat.blt h3 E.N.n=true:=by exact rfl):RG E ops bx (⟨some h3,.assign (.const (.int j n)),ty,pos,after,none⟩::l) O G:=zo hd zai k
def bA{b:Bool}(k:RG E ops bx l O ((h3,tD rB b)::G))(hd:Nat.blt h3 E.N.n=true:=by exact rfl):RG E ops bx (⟨some h3,.assign (.const (.bool b)),ty,pos,after,none⟩::l) O G:=zo hd zab k
def cw(hu:E.P.underlying st=some (.slice e))(V:vV E.N.n h3 (cu G x)=some (tD (fW r) xs))(k:RG E ops bx l O ((h3,tD (rI .i64) (xs.length:Int))::G)):
  RG E ops bx (⟨some h3,.call ⟨.builtin .len,#[.tmp x],#[st]⟩,ty,pos,after,none⟩::l) O G:=zo (dy V).1 (WF hu (dy V).2) k
def eZ{v:α}(V:vV E.N.n h3 (cu G x)=some (tD r v))(k:RG E ops bx l O ((h3,df r v)::G)):RG E ops bx (⟨some h3,.box T (.tmp x),ty,pos,after,none⟩::l) O G:=zo (dy V).1 (zbx (dy V).2) k
def c8{b q:Bool}(h:(vV E.N.n h3 (cu G c),cu G x)=(some (tD rB b),some (oN b (tD rB q))))(k:RG E ops bx l O ((h3,tD rB (b&&q))::G)):
  RG E ops bx (⟨some h3,.pick (.tmp c) (.tmp x) (.const (.bool false)),ty,pos,after,none⟩::l) O G:=zo (wI h).1 (zpa (wI h).2.1 (wI h).2.2) k
def jW{b q:Bool}(h:(vV E.N.n h3 (cu G c),cu G x)=(some (tD rB b),some (oN (!b) (tD rB q))))(k:RG E ops bx l O ((h3,tD rB (b||q))::G)):
  RG E ops bx (⟨some h3,.pick (.tmp c) (.const (.bool true)) (.tmp x),ty,pos,after,none⟩::l) O G:=zo (wI h).1 (Zh (wI h).2.1 (wI h).2.2) k
section
variable{y:Nat}{m n:Int}
def nX(h:(vV E.N.n h3 (cu G x),cu G y)=(some (tD (rI j) m),some (tD (rI j) n)))(k:RG E ops bx l O ((h3,tD rB (decide (m<n)))::G)):
  RG E ops bx (⟨some h3,.binOp .lss xt (.tmp x) (.tmp y) yt,ty,pos,after,none⟩::l) O G:=zo (wI h).1 (zlt (wI h).2.1 (wI h).2.2) k
def bW(V:vV E.N.n h3 (cu G x)=some (tD (rI j) m))(k:RG E ops bx l O ((h3,tD rB (m==n))::G)):RG E ops bx (⟨some h3,.binOp .eql xt (.tmp x) (.const (.int j n)) yt,ty,pos,after,none⟩::l) O G:=zo (dy V).1 (zei (dy V).2) k
def nW(V:vV E.N.n h3 (cu G x)=some (tD (rI j) m))(k:RG E ops bx l O ((h3,tD rB (m !=n))::G)):RG E ops bx (⟨some h3,.binOp .neq xt (.tmp x) (.const (.int j n)) yt,ty,pos,after,none⟩::l) O G:=zo (dy V).1 (zni (dy V).2) k
def mw{c:Bool}(V:cu G x=some (oN c (tD (rI j) m)))(hc:c=true):cr E O G ⟨dst,.binOp .eql xt (.tmp x) (.const (.int j n)) yt,ty,pos,after,g⟩ (tD rB (m==n)):=d9 (bL V hc) hI
def Cx{c:Bool}(V:cu G x=some (oN c (tD (rI j) m)))(hc:c=true):cr E O G ⟨dst,.binOp .neq xt (.tmp x) (.const (.int j n)) yt,ty,pos,after,g⟩ (tD rB (m !=n)):=kD (bL V hc) hI
def fm{i a id:Nat}{z w:Code}(V:xs.drop i=[])(h:(vV E.N.n h3 (cu G a),cu G b)=(some (tD (rI .i64) (i:Int)),some (tD (rI .i64) (xs.length:Int))))(k:AT E bx .normal O ((h3,tD rB (decide ((i:Int)<(xs.length:Int))))::G))(hc:cu ((h3,tD rB (decide ((i:Int)<(xs.length:Int))))::G) c=some (tD rB (decide ((i:Int)<(xs.length:Int)))):=by exact rfl):
  LG E (Exit.inBlock id bx) (.seq (.region id' [⟨some h3,.binOp .lss xt (.tmp a) (.tmp b) yt,ty,pos,after,none⟩].toArray false) (.seq (.cond (.tmp c) z (.exit id)) w)) O G:=
 eu<|a8<|nX h<|br<|aT<|Bz (D hc) (Wk V)<|dB<|aq (aq (bV k))
def fj{e:α}{i a:Nat}{z w:Code}(V:xs.drop i=e::tl)(h:(vV E.N.n h3 (cu G a),cu G b)=(some (tD (rI .i64) (i:Int)),some (tD (rI .i64) (xs.length:Int))))(k:CG E (Exit.then (zN E.r E.P (.seq (.region id' [⟨some h3,.binOp .lss xt (.tmp a) (.tmp b) yt,ty,pos,after,none⟩].toArray false) (.seq (.cond (.tmp c) .skip z) w)) bx) bx) w O ((h3,tD rB (decide ((i:Int)<(xs.length:Int))))::G))(hc:cu ((h3,tD rB (decide ((i:Int)<(xs.length:Int))))::G) c=some (tD rB (decide ((i:Int)<(xs.length:Int)))):=by exact rfl):
  LG E bx (.seq (.region id' [⟨some h3,.binOp .lss xt (.tmp a) (.tmp b) yt,ty,pos,after,none⟩].toArray false) (.seq (.cond (.tmp c) .skip z) w)) O G:=
 eu<|a8<|nX h<|br<|aT<|By (D hc) (S8 V)<|jg k
end
def Gi{y:α}{i:Int}(hu:E.P.underlying st=some (.slice e))(ti:TI E.P e sz bytes agg z)(h:(vV E.N.n h3 (cu G x),cu G ix)=(some (tD (fW r) xs),some (tD (rI j) i)))(hy:gR xs i=some y)(k:RG E ops bx l O ((h3,df r y)::G))(hsz:r.sz=sz:=by exact rfl):
  RG E ops bx (⟨some h3,.indexAddr st (.tmp x) (.tmp ix),ty,pos,after,none⟩::l) O G:=zo (wI h).1 (Nt hu ti hsz (wI h).2.1 (wI h).2.2 hy) k
def fQ{y:α}{i:Int}{p2:Nat}(hu:E.P.underlying st=some (.slice e))(ti:TI E.P e sz bytes agg z)(h:(vV E.N.n h3 (cu G x),cu G ix)=(some (tD (fW r) xs),some (tD (rI j) i)))(hy:gR xs i=some y)(k:RG E ops bx l O ((d2,tD r y)::(h3,df r y)::G))(hsz:r.sz=sz:=by exact rfl)(hp2:vV E.N.n d2 (cu ((h3,df r y)::G) p2)=some (df r y):=by exact rfl)(hs:(r.sz,r.agg)=(sz,agg):=by exact rfl):
  RG E ops bx (⟨some h3,.indexAddr st (.tmp x) (.tmp ix),ty,pos,after,none⟩::⟨some d2,.load e (.tmp p2),ty2,pos2,after2,none⟩::l) O G:=Gi hu ti h hy (fi ti hp2 k hs) hsz
def bv{x:α}{y:β}{p v:Nat}{ty:TypeId}(ti:TI E.P U sz bytes agg z)(hset:eV r off q set)(h:(cu G p,cu G v)=(some (Z (M b off)),some (tD q y)))(k:RG E ops bx l (Q r T b (set x y)::O) G)(hsz:q.sz=sz:=by exact rfl)(hoff:Nat.ble (off+q.sz) r.sz=true:=by exact rfl):
  RG E ops bx (⟨none,.store U (.tmp p) (.tmp v),ty,pos,after,none⟩::l) (Q r T b x::O) G:=ed ti hsz hset hoff (D (wF h).1) (D (wF h).2) k
def Nx(n:Nat)(ops:Array Oper)(h3 j:Nat)(G:mb):Option Ty:=((ops[j]?).bind (·.dst)).bind fun gs=>vV n gs (vV n h3 (cu G gs))
def DP{h3 j:Nat}{ops:Array Oper}{t:Ty}(h:Nx n ops h3 j G=some t): ∃gs,(ops[j]?).bind (·.dst)=some gs/\vV n gs (vV n h3 (cu G gs))=some t:=by
 unfold Nx at h
 cases H:(ops[j]?).bind (·.dst)with
 |none=>rw [H]at h;cases h
 |some gs=>rw [H]at h;exact⟨gs,rfl,h⟩
def ai{j:Nat}{b:Bool}(H:Nx E.N.n ops h3 j G=some (tD rB b))(h:b=true->cr E O G ⟨some h3,op,ty,pos,after,some (j,true)⟩ t)(k:RG E ops bx l O ((h3,oN b t)::G)):
  RG E ops bx (⟨some h3,op,ty,pos,after,some (j,true)⟩::l) O G:=by obtain⟨gs,Y,X⟩:=DP H;exact zgt Y X h k
def bz{j:Nat}{b:Bool}(H:Nx E.N.n ops h3 j G=some (tD rB b))(h:(!b)=true->cr E O G ⟨some h3,op,ty,pos,after,some (j,false)⟩ t)(k:RG E ops bx l O ((h3,oN (!b) t)::G)):
  RG E ops bx (⟨some h3,op,ty,pos,after,some (j,false)⟩::l) O G:=by obtain⟨gs,Y,X⟩:=DP H;exact zgf Y X h k
section
variable{c:Bool}
def ce{x:α}{p:Nat}(ti:TI E.P U sz bytes agg z)(hp:cu G p=some (oN c (df r x)))(hs:(r.sz,r.agg)=(sz,agg))(hc:c=true):
  cr E O G ⟨dst,.load U (.tmp p),ty,pos,after,g⟩ (tD r x):=kE ti (wF hs).1 (wF hs).2 (bL hp hc)
def cj{get:α->β}{x:α}{i:Nat}{p:Nat}(hf:bK E.P T i=some (off,sz))(hq:lC r off q get)(hp:cu G p=some (df r x))(h0:(!(Nat.beq sz 0)&&Nat.ble (off+q.sz) r.sz)=true)(_:c=true):cr E O G ⟨dst,.fieldAddr T (.tmp p) i,ty,pos,after,g⟩ (df q (get x)):=w6 hf hq hp h0
def du(V:cu G x=some t)(_:c=true):cr E O G ⟨dst,.move (.tmp x),ty,pos,after,g⟩ t:=lQ V
def ua(V:cu G x=some (oN c t))(hc:c=true):cr E O G ⟨dst,.move (.tmp x),ty,pos,after,g⟩ t:=bQ (bL V hc)
def ma(hu:E.P.underlying st=some (.slice e))(V:cu G x=some (oN c (tD (fW r) xs)))(hc:c=true):
  cr E O G ⟨dst,.call ⟨.builtin .len,#[.tmp x],#[st]⟩,ty,pos,after,g⟩ (tD (rI .i64) (xs.length:Int)):=mG hu (bL V hc)
def y0{b:Bool}(V:cu G x=some (oN c (tD rB b)))(hc:c=true):cr E O G ⟨dst,.unOp .not xt (.tmp x),ty,pos,after,g⟩ (tD rB (!b)):=gG (bL V hc)
end
def aZ(h:vV E.N.n h3 (cu G x)=some t)(k:CG E bx y O ((h3,t)::G)):RG E ops (Exit.then (y.wpIn (fw E.r) 0 E.P bx) bx) [⟨some h3,.assign (.tmp x),ty,pos,after,none⟩] O G:=hE h (br k)
def bS(h:AT E bx .ret O G):RG E ops (Exit.then (Code.ret.wpIn (fw E.r) 0 E.P bx) bx) [] O G:=br (qU h)
def bq(h:vV E.N.n h3 (cu G x)=some t)(k:AT E bx .ret O ((h3,t)::G)):RG E ops (Exit.then (Code.ret.wpIn (fw E.r) 0 E.P bx) bx) [⟨some h3,.assign (.tmp x),ty,pos,after,none⟩] O G:=hE h (bS k)
def bm{id:Nat}{z:Code}(h:RG E l.toArray (Exit.then (y.wpIn (fw E.r) 0 E.P (Exit.then (z.wpIn (fw E.r) 0 E.P bx) bx)) (Exit.then (z.wpIn (fw E.r) 0 E.P bx) bx)) l O G):CG E bx (.seq (.seq (.region id l.toArray false) y) z) O G:=aT (a8 h)
def aB{id:Nat}(h:vV E.N.n h3 (cu G x)=some t)(k:RG E ((⟨some h3,.move (.tmp x),ty,pos,after,none⟩::l).toArray) (Exit.then (y.wpIn (fw E.r) 0 E.P bx) bx) l O ((h3,t)::G)):
  CG E bx (.seq (.region id (⟨some h3,.move (.tmp x),ty,pos,after,none⟩::l).toArray false) y) O G:=a8 (aS h k)
def iw{α β:Type _}{a:Option α}{f:α->Option β}{R:β}{xs:List Operand}{u:α->Ty}(h:a.bind f=some R)(hc:ak E.P fid=true)(hs: ∀{y},a=some y->dJ E.P fid ts (u y))(V:kL E.N G xs ts)(k: ∀y,f y=some R->RG E ops bx l O ((h3,u y)::G))(hd:Nat.blt h3 E.N.n=true:=by exact rfl):RG E ops bx (⟨some h3,.call ⟨.value (.func fid),xs.toArray,ats⟩,ty,pos,after,none⟩::l) O G:=
 bM h fun y hy h=>uD (db hc (hs hy) V) hd (k y h)
def u6{α β:Type _}{γ:Type}{a:Option α}{f:α->Option β}{R:β}{r:Rp γ}{zs:α->List γ}{xs:List Operand}(h:a.bind f=some R)(hc:ak E.P fid=true)(hs: ∀{y},a=some y->jy E.P fid ts false r T (zs y))(V:kL E.N G xs ts)(k: ∀y,f y=some R-> ∀b cap,RG E ops bx l (dk r T b cap (zs y)::O) ((h3,Z (au b cap (zs y).length))::G))(hd:Nat.blt h3 E.N.n=true:=by exact rfl):
  RG E ops bx (⟨some h3,.call ⟨.value (.func fid),xs.toArray,ats⟩,ty,pos,after,none⟩::l) O G:=bM h fun y hy h=>Tt hc (hs hy) V hd (k y h)
def dW{e:α}{i a id:Nat}(V:xs.drop i=e::tl)(hN:xs.length<=maxLen)(h:vV E.N.n h3 (cu G a)=some (tD (rI .i64) (i:Int)))(k:AT E bx .normal O ((d2,tD (rI .i64) ((i+1:Nat):Int))::(h3,tD (rI .i64) ((i+1:Nat):Int))::G))(X:vV E.N.n d2 (cu ((h3,tD (rI .i64) ((i+1:Nat):Int))::G) b)=some (tD (rI .i64) ((i+1:Nat):Int)):=by exact rfl):
  AT E (Exit.inBlock id (Exit.then ((Code.region id' [⟨some h3,.binOp .add xt (.tmp a) (.const (.int .i64 1)) yt,ty,pos,after,none⟩,⟨some d2,.move (.tmp b),ty2,pos2,after2,none⟩].toArray false).wpIn (fw E.r) 0 E.P bx) bx)) .normal O G:=
 aF<|aG<|aw<|zo (dy h).1 (zin (Wj V hN) (dy h).2)<|aS X<|aX k
def Zj{e:α}{i a b2 d3 id:Nat}{ty3:TypeId}{pos3:String}{after3:Array Edge}(V:xs.drop i=e::tl)(hN:xs.length<=maxLen)(h:vV E.N.n h3 (cu G a)=some (tD (rI .i64) (i:Int)))(k:AT E bx .normal O ((d3,tD (rI .i64) ((i+1:Nat):Int))::(d2,tD (rI .i64) ((i+1:Nat):Int))::(h3,tD (rI .i64) (i:Int))::G))(Y:vV E.N.n d2 (cu ((h3,tD (rI .i64) (i:Int))::G) b)=some (tD (rI .i64) (i:Int)):=by exact rfl)(X:vV E.N.n d3 (cu ((d2,tD (rI .i64) ((i+1:Nat):Int))::(h3,tD (rI .i64) (i:Int))::G) b2)=some (tD (rI .i64) ((i+1:Nat):Int)):=by exact rfl):
  AT E (Exit.inBlock id (Exit.then ((Code.region id' [⟨some h3,.move (.tmp a),ty,pos,after,none⟩,⟨some d2,.binOp .add xt (.tmp b) (.const (.int .i64 1)) yt,ty2,pos2,after2,none⟩,⟨some d3,.assign (.tmp b2),ty3,pos3,after3,none⟩].toArray false).wpIn (fw E.r) 0 E.P bx) bx)) .normal O G:=
 aF<|aG<|aw<|aS h<|zo (dy Y).1 (zin (Wj V hN) (dy Y).2)<|hE X<|aX k
section
variable{e:α}{i a p q1 q2 d3 d4 id:Nat}{ty3 ty4 u:TypeId}{pos3 pos4:String}{after3 after4:Array Edge}{z w:Code}
end
end
section
variable{l:List Oper}{ty:TypeId}
def jh(r:Rp α)(k:RG E ops bx l O ((h3,tD (fW r) [])::G))(hd:Nat.blt h3 E.N.n=true:=by exact rfl):RG E ops bx (⟨some h3,.assign (.const (.slice none 0 0)),ty,pos,after,none⟩::l) O G:=zo hd (cg UF) k
def cZ{β:Type _}{h2 h1:Option β}{r:β}{x:Code}{b:Bool}(h:(if b=true then h2 else h1)=some r)(K:cu G c=some (tD rB b))(V:h2=some r->CG E bx x O G)(hy:h1=some r->CG E bx y O G):
  RG E ops (Exit.then ((Code.cond (.tmp c) x y).wpIn (fw E.r) 0 E.P bx) bx) [] O G:=br (jz h K V hy)
def ei{id:Nat}{hb:Act->World->Prop}(h:AT E bx .ret O G):AT E (Exit.inBlock id (Exit.then hb bx)) .ret O G:=Cl (av h)
def gQ{n:Int}(k:AT E bx .ret O ((h3,tD (rI j) n)::G))(hd:Nat.blt h3 E.N.n=true:=by exact rfl):RG E ops (Exit.then (Code.ret.wpIn (fw E.r) 0 E.P bx) bx) [⟨some h3,.assign (.const (.int j n)),ty,pos,after,none⟩] O G:=zo hd zai (bS k)
def eX{f:FuncId}{c:Code}{t:Ty}{N:Nat}(hf:P.funcs[f]? =some fn)(K:(fn.body,fn.ntmps,Nat.ble ts.length fn.ntmps)=(some c,N,true))(h: ∀{w0 S0},CG ⟨P,⟨N,[]⟩,tY,w0,S0,none⟩ (bodyPost P fn (KL ⟨P,⟨N,[]⟩,tY,w0,S0,none⟩ t)) c [] (zf 0 ts)):dJ P f ts t:=by
 obtain⟨Y,X⟩:=wF K
 obtain⟨X,d⟩:=wF X
 subst X
 exact dJ.of hf Y rfl d fun _ _=>h
section
variable{i:Nat}
def Zk{G:mb}{k:Nat}{t:Ty}:cu ((k,t)::G) k=some t:=by simp [cu]
def iy(h:ts[i]? =some u)(hu:cu G x=some u)(K:([(⟨x,u,none⟩:Nd)].all (pm l ⟨dst,.move (.tmp x),ty,pos,after,g⟩ i)&&eE i ⟨dst,.move (.tmp x),ty,pos,after,g⟩&&g.isNone)=true:=by exact rfl):
  ∃(needs:List Nd) (t:Ty),ts[i]? =some t/\sd G ts needs/\(needs.all (pm l ⟨dst,.move (.tmp x),ty,pos,after,g⟩ i))=true/\eE i ⟨dst,.move (.tmp x),ty,pos,after,g⟩=true/\ci E O l.toArray (jG needs) ⟨dst,.move (.tmp x),ty,pos,after,g⟩ t:=
 Lr x h hu (lQ Zk) K
def u7{v:α}(j:Nat)(ti:TI E.P U sz bytes agg z)(h:ts[i]? =some (tD r v))(hu:ts[j]? =some (df r v))(hs:(r.sz,r.agg)=(sz,agg):=by exact rfl)(K:([(⟨x,df r v,some j⟩:Nd)].all (pm l ⟨dst,.load U (.tmp x),ty,pos,after,g⟩ i)&&eE i ⟨dst,.load U (.tmp x),ty,pos,after,g⟩&&g.isNone)=true:=by exact rfl):
  ∃(needs:List Nd) (t:Ty),ts[i]? =some t/\sd G ts needs/\(needs.all (pm l ⟨dst,.load U (.tmp x),ty,pos,after,g⟩ i))=true/\eE i ⟨dst,.load U (.tmp x),ty,pos,after,g⟩=true/\ci E O l.toArray (jG needs) ⟨dst,.load U (.tmp x),ty,pos,after,g⟩ t:=
 gk x j h hu (BA ti Zk hs) K
end
end
end Go.Proofs.YtdohlidddcgfjaaGreat

