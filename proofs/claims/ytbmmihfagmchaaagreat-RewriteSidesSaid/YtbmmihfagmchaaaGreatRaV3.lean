/- db of this claim: W33, W34, W35, W36, W37, W38, W39, W40, W48, W50, W51, W41, W42, W43, W21, W27, W45, W46, W47, W52, W53, W56, W57. -/
import Derived.Test.YtbmmihfagmchaaaGreatRaV2
import Derived.Lib.Bytealg
import Derived.Maps.Range
import Derived.Laws.IdiomRangeMap
import Derived.Test.YtbmmihfagmchaaaGreatRaV1
import Derived.Laws.BytesString
import Derived.Below
import Derived.ProofKit
import Derived.OpenShut
import Derived.LaidMore
import Derived.Laws.Externs
set_option linter.all false
namespace Go.Proofs.YtbmmihfagmchaaaGreat
open Go

def pz(N:Nat):List Nat->List Oper->Bool
 |_,[]=>true
 |seen,o::rest=>match o.dst with
  |some d=>Nat.blt d N&& !(seen.any (Nat.beq d))&&pz N (d::seen) rest
  |none=>pz N seen rest
variable{N:Nat}{β:Type}{d j:Nat}{o:Oper}{p:Operand}{q:Rp β}
def sQ(l:List Oper): ∀(seen:List Nat),pz N seen l=true->
  (∀o:Oper,o∈l-> ∀d,o.dst=some d->d<N/\d∉seen)/\ ∀(i j:Nat) (o p:Oper) (d:Nat),l[i]? =some o->l[j]? =some p->o.dst=some d->p.dst=some d->i=j:=by
 induction l with
 |nil=>exact fun _ _=>⟨fun _ h=>(by cases h),fun _ _ _ _ _ h=>(by simp at h)⟩
 |cons o l ih=>
  intro seen h
  unfold pz at h
  cases hd:o.dst with
  |none=>
   rw [hd]at h
   obtain⟨Y,H⟩:=ih seen h
   refine⟨fun q hq d hqd=>?_,fun i j p q d hi hj hp hq=>?_⟩
   ·rcases eV.1 hq with rfl|hq
    ·rw [hd]at hqd;cases hqd
    ·exact Y q hq d hqd
   ·cases i with
    |zero=>simp at hi;subst hi;rw [hd]at hp;cases hp
    |succ i=>
     cases j with
     |zero=>simp at hj;subst hj;rw [hd]at hq;cases hq
     |succ j=>rw [H i j p q d (by simpa using hi) (by simpa using hj) hp hq]
  |some d0=>
   rw [hd]at h
   simp only [kA,pc,za]at h
   obtain⟨⟨g1,g2⟩,g3⟩:=h
   obtain⟨Y,H⟩:=ih (d0::seen) g3
   have hns:d0∉seen:=fun hm=>by
    have:seen.any (Nat.beq d0)=true:=q7.2 ⟨d0,hm,Nat.beq_refl d0⟩
    rw [this]at g2;cases g2
   refine⟨fun q hq d hqd=>?_,fun i j p q d hi hj hp hq=>?_⟩
   ·rcases eV.1 hq with rfl|hq
    ·rw [hd]at hqd;cases hqd;exact⟨g1,hns⟩
    ·obtain⟨k1,k2⟩:=Y q hq d hqd
     exact⟨k1,fun hm=>k2 (nf _ hm)⟩
   ·cases i with
    |zero=>
     cases j with
     |zero=>rfl
     |succ j=>
      simp at hi;subst hi
      rw [hd]at hp;cases hp
      exact absurd (k5 ..) (Y q (pq (by simpa using hj)) d0 hq).2
    |succ i=>
     cases j with
     |zero=>
      simp at hj;subst hj
      rw [hd]at hq;cases hq
      exact absurd (k5 ..) (Y p (pq (by simpa using hi)) d0 hp).2
     |succ j=>rw [H i j p q d (by simpa using hi) (by simpa using hj) hp hq]
def yj:List Oper->List Ty->gJ->gJ
 |o::l,t::ts,G=>match o.dst with
  |some d=>(d,t)::yj l ts G
  |none=>yj l ts G
 |_,_,G=>G
variable{G:gJ}{e:TypeId}{k:IntKind}{t:TypeId}{ts:List Ty}{u:Ty}
def vT(l:List Oper): ∀(ts:List Ty) (k:Nat) (t:Ty),ts.length=l.length->bu (yj l ts G) k=some t->
  (∃(j:Nat) (o:Oper),l[j]? =some o/\o.dst=some k/\ts[j]? =some t)\/(bu G k=some t/\ ∀o:Oper,o∈l->o.dst≠some k):=by
 induction l with
 |nil=>
  intro ts k t hl h
  have:ts=[]:=ra (by simpa using hl)
  subst this
  exact .inr ⟨h,fun _ h=>(by cases h)⟩
 |cons o l ih=>
  intro ts k t hl h
  cases ts with
  |nil=>simp at hl
  |cons u ts=>
   unfold yj at h
   have hl' :ts.length=l.length:=by simpa using hl
   have lift:((∃(j:Nat) (p:Oper),l[j]? =some p/\p.dst=some k/\ts[j]? =some t)\/(bu G k=some t/\ ∀p:Oper,p∈l->p.dst≠some k))->o.dst≠some k->
     (∃(j:Nat) (p:Oper),(o::l)[j]? =some p/\p.dst=some k/\(u::ts)[j]? =some t)\/(bu G k=some t/\ ∀p:Oper,p∈o::l->p.dst≠some k):=by
    rintro(⟨j,p,Y,H,h3⟩|⟨Y,H⟩) hne
    ·exact .inl ⟨j+1,p,by simpa using Y,H,by simpa using h3⟩
    ·exact .inr ⟨Y,fun p hp=>(eV.1 hp).elim (fun e=>by subst e;exact hne) (H p)⟩
   cases hd:o.dst with
   |none=>
    rw [hd]at h
    exact lift (ih ts k t hl' h) (by rw [hd];exact fun e=>by cases e)
   |some d=>
    rw [hd]at h
    simp only at h
    unfold bu at h
    by_cases V:Nat.beq d k=true
    ·rw [V]at h
     have:=kB V
     subst this
     have e:u=t:=by simpa using h
     subst e
     exact .inl ⟨0,o,rfl,hd,rfl⟩
    ·rw [q8]at V
     rw [V]at h
     refine lift (ih ts k t hl' h) ?_
     rw [hd]
     intro e
     have:d=k:=my e
     subst this
     simp at V
abbrev TS:=List Nat×(List OI->Ty)
def TS.at(p:TS)(σ:Nat->OI):Ty:=p.2 (p.1.map σ)
def tc(t:Ty):TS:=([],fun _=>t)
def B7(Ss:List ((Nat->OI)->List OE))(c:Nat)(σ:Nat->OI):List OE:=match Ss[c]? with|some f=>f σ|none=>[]
structure NS where
 slot:Nat
 ty:(Nat->OI)->Ty
 src:Option Nat
def NS.at(n:NS)(σ:Nat->OI):Nd:=⟨n.slot,n.ty σ,n.src⟩
def E4(G:gJ)(ts:List TS)(n:NS):Prop:=
 match n.src with
 |some j=> ∀σ,(ts[j]?).map (fun p=>p.at σ)=some (n.ty σ)
 |none=> ∀σ,bu G n.slot=some (n.ty σ)
def pb(G:gJ)(ts:List TS):List NS->Prop
 |[]=>True
 |n::l=>E4 G ts n/\pb G ts l
variable{n:Nat}
def pb.mem{ts:List TS}: ∀{l:List NS},pb G ts l-> ∀n∈l,E4 G ts n
 |_::_,⟨h,_⟩,_,.head _=>h
 |_::_,⟨_,h⟩,_,.tail _ hm=>pb.mem h _ hm
def o8(l:List NS)(σ:Nat->OI):gJ:=eM (l.map (·.at σ))
def DB(ts:List TS)(σ:Nat->OI):List Ty:=ts.map fun p=>p.at σ
def BC(L:List Oper)(es:List Bool)(i:Nat)(p:TS):Bool:=p.1.all fun k=>(es[k]?).getD false&&(Nat.beq k i||iT L L.length i k)
def FG(L:List Oper)(es:List Bool)(i lo hi:Nat):Bool:=
 Nat.ble lo (dW es es.length)&&(List.range es.length).all fun k=> !((es[k]?).getD false)||((Nat.ble lo (dW es k)||iT L L.length i k)&&(Nat.blt (dW es k) hi||iT L L.length k i))
def DS(E:En)(G:gJ)(L:List Oper)(ts:List TS)(Ss:List ((Nat->OI)->List OE))(es0:List Bool):Nat->Nat->List Oper->List Bool->Prop
 |_,_,[],_=>True
 |i,c,o::rest,false::es=>(∃(needs:List NS) (t:TS) (lo hi:Nat),ts[i]? =some t/\pb G ts needs/\(needs.all fun n=>jd L o i (n.at fun _=>nh))=true/\cQ i o=true/\BC L es0 i t=true/\FG L es0 i lo hi=true/\o.dst.isSome=true/\
   ∀c σ,lo<=c->c<=hi->bG E (B7 Ss c σ) L.toArray (o8 needs σ) o (t.at σ))/\DS E G L ts Ss es0 (i+1) c rest es
 |i,c,o::rest,true::es=>(∃(needs:List NS) (t:TS),ts[i]? =some t/\pb G ts needs/\(needs.all fun n=>jd L o i (n.at fun _=>nh))=true/\cQ i o=true/\BC L es0 i t=true/\
   ∀σ,jF E L.toArray (B7 Ss c σ) (o8 needs σ) o (fun x=>B7 Ss (c+1) (y7 σ i x)) (fun x=>t.at (y7 σ i x)))/\DS E G L ts Ss es0 (i+1) (c+1) rest es
 |_,_,_::_,[]=>False
variable{E:En}{L:List Oper}{Ss:List ((Nat->OI)->List OE)}{α:Type}{c:Code}{es:List Bool}{lo:Int}{r:Rp α}{x:Operand}{σ:Nat->OI}
def DS.get{ts:List TS}{es0:List Bool}: ∀(r:List Oper) (es:List Bool) (k c:Nat),DS E G L ts Ss es0 k c r es-> ∀(j:Nat) (o:Oper),r[j]? =some o->
    ∃e,es[j]? =some e/\ ∃(needs:List NS) (t:TS),ts[k+j]? =some t/\pb G ts needs/\(needs.all fun n=>jd L o (k+j) (n.at fun _=>nh))=true/\cQ (k+j) o=true/\BC L es0 (k+j) t=true/\
      (match e with
       |false=>o.dst.isSome=true/\ ∃lo hi,FG L es0 (k+j) lo hi=true/\ ∀c σ,lo<=c->c<=hi->bG E (B7 Ss c σ) L.toArray (o8 needs σ) o (t.at σ)
       |true=> ∀σ,jF E L.toArray (B7 Ss (c+dW es j) σ) (o8 needs σ) o (fun x=>B7 Ss (c+dW es j+1) (y7 σ (k+j) x)) (fun x=>t.at (y7 σ (k+j) x))):=by
  intro r
  induction r with
  |nil=>intro es k c _ j o h;simp at h
  |cons p r ih=>
    intro es k c h j o ho
    cases es with
    |nil=>exact h.elim
    |cons e es=>
      cases e with
      |false=>
        obtain⟨⟨needs,t,lo,hi,g1,g2,g3,g4,g5,g6,g7,g8⟩,H⟩:=h
        cases j with
        |zero=>
          simp at ho;subst ho
          exact⟨false,rfl,needs,t,g1,g2,g3,g4,g5,g7,lo,hi,g6,g8⟩
        |succ j=>
          obtain⟨e',g1,g2⟩:=ih es (k+1) _ H j o (by simpa using ho)
          refine⟨e',by simpa using g1,?_⟩
          rw [show k+1+j=k+(j+1)from by omega]at g2
          have e1:c+dW (false::es) (j+1)=c+dW es j:=by simp [dW]
          rw [e1];exact g2
      |true=>
        obtain⟨Y,H⟩:=h
        cases j with
        |zero=>
          simp at ho;subst ho
          exact⟨true,rfl,Y⟩
        |succ j=>
          obtain⟨e',g1,g2⟩:=ih es (k+1) _ H j o (by simpa using ho)
          refine⟨e',by simpa using g1,?_⟩
          rw [show k+1+j=k+(j+1)from by omega]at g2
          have e1:c+dW (true::es) (j+1)=c+1+dW es j:=by simp [dW];omega
          rw [e1];exact g2
structure Fq(E:En)(G:gJ)(l:List Oper)(ts:List TS)(Ss:List ((Nat->OI)->List OE))(es:List Bool)(done:Array Bool)(a:Act)(w:World)(S:SH)(σ:Nat->OI)(c:Nat):Prop where
 ext:ez E.B E.w0 E.S0 w S
 sat:gc w S
 own:cF E.base E.B w S (B7 Ss c σ)
 size:a.tmps.size=E.N.n
 defers:a.defers=E.N.ds
 dsz:done.size=l.length
 down: ∀j o,l[j]? =some o->done.getD j false=true-> ∀e∈o.after,Region.binds .any e=true->done.getD e.on false=true
 old: ∀k t,bu G k=some t->(∀j o,l[j]? =some o->done.getD j false=true->o.dst≠some k)->t.p S (a.tmps.getD k undef)
 new: ∀j o d p,l[j]? =some o->done.getD j false=true->o.dst=some d->ts[j]? =some p->(p.at σ).p S (a.tmps.getD d undef)
 deps: ∀j p,done.getD j false=true->ts[j]? =some p-> ∀k∈p.1,done.getD k false=true
 chain: ∀k,es[k]? =some true->(done.getD k false=true↔dW es k<c)
variable{S S' :SH}{a:Act}{b:Nat}{done:Array Bool}{f:FuncId}{κ:Type}{m:List (κ×β)}{v:Value}{w w' :World}
section
variable{ts:List TS}
def Fq.need{c:Nat}(h:Fq E G L ts Ss es done a w S σ c){i:Nat}(hi:L[i]? =some o)(hun:done.getD i true=false)(hwait: ∀e∈o.after,Region.binds .any e=true->done.getD e.on false=true){needs:List NS}(Y:pb G ts needs)(H:(needs.all fun n=>jd L o i (n.at fun _=>nh))=true):db E.N S a (o8 needs σ):=by
 have hlt:i<done.size:=by rw [h.dsz];exact(mH.1 hi).1
 have hun' :done.getD i false=false:=by
  simp [hlt]at hun ⊢;exact hun
 refine⟨h.size,h.defers,?_⟩
 have key: ∀n∈needs,(n.ty σ).p S (a.tmps.getD n.slot undef):=by
  intro n hn
  have hs:=kz.1 H n hn
  have ho:=Y.mem n hn
  unfold jd NS.at at hs
  unfold E4 at ho
  cases hsrc:n.src with
  |some j=>
   rw [hsrc]at hs ho
   simp only [kA]at hs
   obtain⟨hs1,hs2⟩:=hs
   cases hj:L[j]? with
   |none=>rw [hj]at hs1;cases hs1
   |some p=>
    rw [hj]at hs1
    cases hd:p.dst with
    |none=>simp only [hd]at hs1;cases hs1
    |some d=>
     simp only [hd]at hs1
     have hd' :=kB hs1
     subst hd'
     have hdone:done.getD j false=true:=by
      unfold sO at hs2
      obtain⟨e,he0,V⟩:=q7.1 hs2
      have he:e∈o.after:=by simpa using he0
      simp only [kA]at V
      have:=hwait e he V.2
      rwa [kB V.1]at this
     have hm:=ho σ
     cases M:ts[j]? with
     |none=>rw [M]at hm;simp at hm
     |some f=>
      rw [M]at hm
      have e:f.at σ=n.ty σ:=by simpa using hm
      rw [<-e]
      exact h.new j p n.slot f hj hdone hd M
  |none=>
   rw [hsrc]at hs ho
   refine h.old _ _ (ho σ) fun j p hj hdone hd=>?_
   have:=kz.1 hs p (pq hj)
   simp only [hd,Nat.beq_refl,po,tI]at this
   unfold sO at this
   obtain⟨e,he0,V⟩:=q7.1 this
   have he:e∈p.after:=by simpa using he0
   simp only [kA]at V
   have h3:=h.down j p hj hdone e he V.2
   rw [kB V.1]at h3
   rw [h3]at hun'
   cases hun'
 clear Y H
 intro k t hk
 unfold o8 at hk
 induction needs with
 |nil=>simp [eM,bu]at hk
 |cons n needs ih=>
  simp only [wu]at hk
  unfold eM bu at hk
  by_cases V:Nat.beq n.slot k=true
  ·have hb' :Nat.beq (n.at σ).slot k=true:=V
   rw [hb']at hk
   have:=kB V
   subst this
   have h9:some (n.at σ).ty=some t:=by simpa using hk
   have e:n.ty σ=t:=my h9
   rw [<-e]
   exact key n (k5 ..)
  ·rw [q8]at V
   have hb' :Nat.beq (n.at σ).slot k=false:=V
   rw [hb']at hk
   exact ih (fun m hm=>key m (nf _ hm)) hk
def Fq.step{σ' :Nat->OI}{c c' :Nat}(h:Fq E G L ts Ss es done a w S σ c){i:Nat}{p0:TS}{C:Nat->Prop}(hi:L[i]? =some o)(hdN: ∀d,o.dst=some d->d<E.N.n)(hs2: ∀d,o.dst=some d-> ∀j p,L[j]? =some p->done.getD j false=true->p.dst=some d->i=j)(hwait: ∀e∈o.after,Region.binds .any e=true->done.getD e.on false=true)(D:ts[i]? =some p0)(hun:done.getD i true=false)(hdep: ∀k∈p0.1,k=i\/done.getD k false=true)(hext:ez C w S w' S')(hC: ∀b,C b->E.base<=b\/E.B b)(hsat:gc w' S')(hown:cF E.base E.B w' S' (B7 Ss c' σ'))(hσ: ∀k,k≠i->σ' k=σ k)(hv:(p0.at σ').p S' v)(hch: ∀k,es[k]? =some true->((done.setIfInBounds i true).getD k false=true↔dW es k<c')):
  Fq E G L ts Ss es (done.setIfInBounds i true) (a.put o.dst v) w' S' σ' c' :=by
 have hlt:i<done.size:=by rw [h.dsz];exact(mH.1 hi).1
 have hset: ∀j,(done.setIfInBounds i true).getD j false=true->j=i\/done.getD j false=true:=fun j hj=>by
  by_cases hij:i=j
  ·exact .inl hij.symm
  ·rw [rY false hij]at hj;exact .inr hj
 have hseti:(done.setIfInBounds i true).getD i false=true:=by simp [hlt]
 have hun' :done.getD i false=false:=by simp [hlt]at hun ⊢;exact hun
 have hput: ∀k,(∀d,o.dst=some d->d≠k)->(a.put o.dst v).tmps.getD k undef=a.tmps.getD k undef:=fun k hk=>by
  cases hd:o.dst with
  |none=>rfl
  |some d=>
   have hda:d<a.tmps.size:=by rw [h.size];exact hdN d hd
   rw [lG hda,ei (hk d hd)]
 refine⟨h.ext.step hext hC,hsat,hown,?_,?_,by simp [h.dsz],fun j p hj hdone e he V=>?_,fun k u hk hno=>?_,fun j p d' u hj hdone hd' hu=>?_,fun j u hj hu k hk=>?_,hch⟩
 ·cases o.dst with
  |none=>exact h.size
  |some d=>simp [Act.put,h.size]
 ·cases o.dst with
  |none=>exact h.defers
  |some d=>exact h.defers
 ·rcases hset j hdone with rfl|hj'
  ·rw [hi]at hj
   have:o=p:=by simpa using hj
   subst this
   exact ox (hwait e he V)
  ·exact ox (h.down j p hj hj' e he V)
 ·rw [hput k fun d hd e=>hno i o hi hseti (by rw [hd,e])]
  exact u.mono hext.keep (h.old k u hk fun j p hj hdone=>hno j p hj (ox hdone))
 ·by_cases hij:j=i
  ·subst hij
   rw [hi]at hj
   have:o=p:=by simpa using hj
   subst this
   have hda:d' <a.tmps.size:=by rw [h.size];exact hdN d' hd'
   rw [hd',lG hda,eF rfl]
   rw [D]at hu
   have:p0=u:=by simpa using hu
   subst this
   exact hv
  ·have hj' :=(hset j hdone).resolve_left hij
   rw [hput d' fun d hd e=>by subst e;exact hij (hs2 d hd j p hj hj' hd').symm]
   have e1:u.at σ' =u.at σ:=congrArg u.2 (List.map_congr_left fun k hk=>hσ k fun e=>by
     subst e
     rw [h.deps j u hj' hu k hk]at hun';cases hun')
   rw [e1]
   exact Ty.mono _ hext.keep (h.new j p d' u hj hj' hd' hu)
 ·rcases hset j hj with rfl|hj'
  ·rw [D]at hu
   have:p0=u:=by simpa using hu
   subst this
   rcases hdep k hk with rfl|h'
   ·exact hseti
   ·exact ox h'
  ·exact ox (h.deps j u hj' hu k hk)
end
variable{Q:Exit->Act->World->Prop}
def xN{l t:List Oper}{ts:List TS}(hsl:pz E.N.n [] l=true)(hlen:ts.length=l.length)(hesl:es.length=l.length)(hd:DS E G (l++t) ts Ss es 0 0 l es)(hch:z7 (l++t) es=true)(D:qm (l++t) l.length t.length=true)(hQ: ∀a w S σ,St E (B7 Ss (dW es es.length) σ) (yj l (DB ts σ) G) a w S->wpListIn (fw E.r) 0 E.P (l++t).toArray Q t a w):
  ∀(fuel:Nat) (done:Array Bool) (a:Act) (w:World) (S:SH) (σ:Nat->OI) (c:Nat),gz done=fuel->(∀j,l.length<=j->done.getD j false=false)->c<=dW es es.length->Fq E G (l++t) ts Ss es done a w S σ c->wpAnyIn (fw E.r) 0 E.P .any (l++t).toArray Q fuel done a w:=by
 have hL1: ∀i o,i<l.length->(l++t)[i]? =some o->l[i]? =some o:=fun i o hi h=>by rwa [vj hi]at h
 have hL2: ∀i o,l[i]? =some o->(l++t)[i]? =some o:=fun i o h=>by rw [vj (mH.1 h).1];exact h
 have htail: ∀m o,l.length<=m->(l++t)[m]? =some o->oZ (l++t) m=true/\cQ m o=true:=fun m o hm ho=>by
  have hml:m<(l++t).length:=(mH.1 ho).1
  rw [hT]at hml
  unfold qm at D
  have:=kz.1 D (m-l.length) (by simp;omega)
  rw [show l.length+(m-l.length)=m from by omega,ho]at this
  simp only [kA]at this
  exact⟨this.1,this.2.1⟩
 have hget:=fun i o (hi:l[i]? =some o)=>DS.get l es 0 0 hd i o hi
 have hedge: ∀i o,(l++t)[i]? =some o->cQ i o=true:=fun i o hi=>by
  rcases iH i l.length with h|h
  ·obtain⟨_,_,_,_,_,_,_,h,_⟩:=hget i o (hL1 i o h hi)
   simpa using h
  ·exact(htail i o h hi).2
 obtain⟨hs1,hs2⟩:=sQ l [] hsl
 have fin: ∀fuel done a w S σ c,gz done=fuel->(∀j,l.length<=j->done.getD j false=false)->c<=dW es es.length->Fq E G (l++t) ts Ss es done a w S σ c->(∀i,i<l.length->done.getD i false=true)->wpAnyIn (fw E.r) 0 E.P .any (l++t).toArray Q fuel done a w:=by
  intro fuel done a w S σ c hu hfree hcle h hall
  have hcc:c=dW es es.length:=by
   rcases iH c (dW es es.length)with hlt|hge
   ·obtain⟨i,Y,H,h3⟩:=o0 hlt
    have:=(h.chain i H).1 (hall i (by omega))
    omega
   ·omega
  subst hcc
  refine qC (n:=l.length) (fun m o hm ho=>(htail m o hm ho).1) hedge t l.length done fuel a w (iZ _) (by simp) h.dsz (fun j hj=>⟨fun hjd=>?_,fun hlt=>hall j hlt⟩) hu
   (hQ a w S σ ⟨h.ext,h.sat,h.own,h.size,h.defers,fun j u hj=>?_⟩)
  ·rcases iH j l.length with h' |h'
   ·exact h'
   ·rw [hfree j h']at hjd;cases hjd
  ·rcases vT l (DB ts σ) j u (by unfold DB;rw [List.length_map];exact hlen) hj with⟨i,o,Y,H,h3⟩|⟨Y,H⟩
   ·unfold DB at h3
    rw [List.getElem?_map]at h3
    cases M:ts[i]? with
    |none=>rw [M]at h3;simp at h3
    |some f=>
     rw [M]at h3
     have e:f.at σ=u:=by simpa using h3
     rw [<-e]
     exact h.new i o j f (hL2 i o Y) (hall i (mH.1 Y).1) H M
   ·refine h.old j u Y fun i o ho hdn=>?_
    rcases iH i l.length with h' |h'
    ·exact H o (pq (hL1 i o h' ho))
    ·rw [hfree i h']at hdn;cases hdn
 have lower: ∀done a w S σ c i,(∀j,l.length<=j->done.getD j false=false)->Fq E G (l++t) ts Ss es done a w S σ c->i∈Region.ready .any (l++t).toArray done->l.length<=i-> ∀j,j<l.length->done.getD j false=true:=by
  intro done a w S σ c i hfree h hi hge j hj
  obtain⟨hun,p,hp,hwait⟩:=qw.1 hi
  have hp' :(l++t)[i]? =some p:=by simpa using hp
  have hcov:=(htail i p hge hp').1
  unfold oZ at hcov
  have hre:=kz.1 hcov j (by simp;omega)
  exact dO h.down _ i j (fun q hq e he V=>by
   have:q=p:=by rw [hp']at hq;simpa using hq.symm
   subst this
   exact hwait e he V) hre
 have hchain: ∀i j,j<i->es[i]? =some true->es[j]? =some true->iT (l++t) (l++t).length i j=true:=fun i j hij Y H=>by
  unfold z7 at hch
  have hil:i<es.length:=(mH.1 Y).1
  have:=kz.1 (kz.1 hch i (by simpa using hil)) j (by simpa using hij)
  rw [Y,H]at this
  simpa using this
 intro fuel
 induction fuel with
 |zero=>
  intro done a w S σ c hu hfree hcle h
  exact fin 0 done a w S σ c hu hfree hcle h fun i hi=>no hu (by rw [h.dsz,hT];omega)
 |succ fuel ih=>
  intro done a w S σ c hu hfree hcle h
  by_cases hall: ∀i,i<l.length->done.getD i false=true
  ·exact fin _ done a w S σ c hu hfree hcle h hall
  have hready0: ∀m i,i<m->i<l.length->Region.ready .any (l++t).toArray done=[]->done.getD i false=true:=by
   intro m
   induction m with
   |zero=>intro i h;omega
   |succ m ihm=>
    intro i him hil hr
    have his:i<done.size:=by rw [h.dsz,hT];omega
    by_cases hdn:done.getD i true=true
    ·rw [<-jx his];exact hdn
    ·exfalso
     obtain⟨o,ho⟩: ∃o,(l++t)[i]? =some o:=⟨l[i],hL2 i _ (lX hil)⟩
     have hmem:i∈Region.ready .any (l++t).toArray done:=by
      rw [qw]
      refine⟨by simpa using hdn,o,by simpa using ho,fun e he V=>?_⟩
      have:=hedge i o ho
      unfold cQ at this
      have:=kz.1 this e (by simpa using he)
      simp only [V,po,tI,pc]at this
      exact ihm e.on (by omega) (by omega) hr
     rw [hr]at hmem;cases hmem
  refine⟨fun hr=>absurd (fun i hi=>hready0 (i+1) i (by omega) hi hr) hall,fun i hi=>?_⟩
  have hil:i<l.length:=by
   rcases iH i l.length with h' |h'
   ·exact h'
   ·exact absurd (lower done a w S σ c i hfree h hi h') hall
  obtain⟨hun,o,ho,hwait⟩:=qw.1 hi
  have ho' :(l++t)[i]? =some o:=by simpa using ho
  have hol:=hL1 i o hil ho'
  obtain⟨e,he,needs,u,Y,H,h3,_,h4,h5⟩:=hget i o hol
  rw [oa]at Y h3 h4
  have hF:=h.need ho' hun hwait H h3
  have his:i<done.size:=by rw [h.dsz,hT];omega
  have hun' :done.getD i false=false:=by rw [<-jx his];exact hun
  have hu' :gz (done.setIfInBounds i true)=fuel:=by have:=lg hun;omega
  have huq: ∀d,o.dst=some d-> ∀j p,(l++t)[j]? =some p->done.getD j false=true->p.dst=some d->i=j:=fun d hdd j p hj hjd hpd=>by
   rcases iH j l.length with h' |h'
   ·exact hs2 i j o p d hol (hL1 j p h' hj) hdd hpd
   ·rw [hfree j h']at hjd;cases hjd
  have hfree' : ∀j,l.length<=j->(done.setIfInBounds i true).getD j false=false:=fun j hj=>by
   rw [rY false (by omega)];exact hfree j hj
  have hbl:E.base<=w.heap.size:=h.ext.size
  have hwaits: ∀q,(l++t)[i]? =some q-> ∀e∈q.after,Region.binds .any e=true->done.getD e.on false=true:=fun q hq e he V=>by
   have:q=o:=by rw [ho']at hq;simpa using hq.symm
   subst this
   exact hwait e he V
  have hdpp: ∀k∈u.1,k=i\/done.getD k false=true:=fun k hk=>by
   have:=kz.1 h4 k hk
   simp only [kA,vf]at this
   rcases this.2 with V|V
   ·exact .inl (kB V)
   ·exact .inr (dO h.down _ i k hwaits V)
  have hdNN: ∀d,o.dst=some d->d<E.N.n:=fun d hd=>(hs1 o (pq hol) d hd).1
  unfold wpOpIn
  rw [ho]
  show if _ then _ else _
  cases e with
  |false=>
   simp only at h5
   obtain⟨hdS,lo,hi',hwin,h5⟩:=h5
   rw [oa]at hwin
   obtain⟨d,hdd⟩:=Option.isSome_iff_exists.1 hdS
   have hdN:=(hs1 o (pq hol) d hdd).1
   unfold FG at hwin
   rw [kA]at hwin
   obtain⟨hw1,hw2⟩:=hwin
   have hw1' :=lL hw1
   have hwk: ∀k,es[k]? =some true->(Nat.ble lo (dW es k)=true\/iT (l++t) (l++t).length i k=true)/\(Nat.blt (dW es k) hi' =true\/iT (l++t) (l++t).length k i=true):=fun k hk=>by
    have hkl:k<es.length:=(mH.1 hk).1
    have:=kz.1 hw2 k (by simpa using hkl)
    rw [hk]at this
    simpa using this
   have hlo:lo<=c:=by
    rcases iH c lo with hlt|hge
    ·exfalso
     obtain⟨k,hk1,hk2,hk3⟩:=o0 (es:=es) (c:=c) (k:=es.length) (by omega)
     rcases(hwk k hk2).1 with V|V
     ·have:=lL V;omega
     ·have:=(h.chain k hk2).1 (dO h.down _ i k hwaits V)
      omega
    ·exact hge
   have hhi:c<=hi' :=by
    rcases iH hi' c with hlt|hge
    ·exfalso
     obtain⟨k,hk1,hk2,hk3⟩:=o0 (es:=es) (c:=hi') (k:=es.length) (by omega)
     rcases(hwk k hk2).2 with V|V
     ·simp only [pc]at V;omega
     ·have hkd:done.getD k false=true:=(h.chain k hk2).2 (by omega)
      have:=dO h.down _ k i (fun q hq e he V=>h.down k q hq hkd e he V) V
      rw [this]at hun';cases hun'
    ·exact hge
   have h6:=h5 c σ hlo hhi a w S h.sat h.own hF
   have hch' : ∀k,es[k]? =some true->((done.setIfInBounds i true).getD k false=true↔dW es k<c):=fun k hk=>by
    have hne:i≠k:=fun e=>by subst e;rw [he]at hk;cases hk
    rw [rY false hne];exact h.chain k hk
   by_cases hw:Region.wanted o (yielded (l++t).toArray a.tmps)=true
   ·rw [eF hw]at h6 ⊢
    refine gj (fun a' w' ⟨v,S',ha,I,hs,hv⟩=>?_) h6
    subst ha
    exact ih _ _ _ S' _ c hu' hfree' hcle (h.step ho' hdNN huq hwait Y hun hdpp I (fun _ V=>V.elim) hs (h.own.ext0 I) (fun _ _=>rfl) hv hch')
   ·rw [ei hw]at h6 ⊢
    exact⟨fun _ _=>trivial,ih _ _ _ S _ c hu' hfree' hcle (h.step ho' hdNN huq hwait Y hun hdpp (ez.refl la _ _) (fun _ V=>V.elim) h.sat h.own (fun _ _=>rfl) h6 hch')⟩
  |true=>
   simp only [oa]at h5
   -- it is the next one of the chain
   have hca:dW es i=c:=by
    have hn: ¬dW es i<c:=fun hlt=>by rw [(h.chain i he).2 hlt]at hun';cases hun'
    rcases iH c (dW es i)with hlt|hge
    ·exfalso
     obtain⟨k,hk1,hk2,hk3⟩:=o0 hlt
     have hkd:done.getD k false=true:=dO h.down _ i k hwaits (hchain i k hk1 he hk2)
     have:=(h.chain k hk2).1 hkd
     omega
    ·omega
   subst hca
   have h6:=h5 σ a w S h.sat h.own hF hbl
   have hch' : ∀k,es[k]? =some true->((done.setIfInBounds i true).getD k false=true↔dW es k<dW es i+1):=fun k hk=>by
    by_cases hik:i=k
    ·subst hik
     constructor
     ·intro _;omega
     ·intro _;simp [his]
    ·rw [rY false hik,h.chain k hk]
     constructor
     ·intro h;omega
     ·intro hlt
      rcases iH i k with hlk|hlk
      ·have:=uZ hlk he;omega
      ·exact uZ (by omega) hk
   have hcle' :dW es i+1<=dW es es.length:=uZ (by omega) he
   by_cases hw:Region.wanted o (yielded (l++t).toArray a.tmps)=true
   ·rw [eF hw]at h6 ⊢
    refine gj (fun a' w' ⟨v,S',x,ha,I,hs,hown,hv⟩=>?_) h6
    subst ha
    exact ih _ _ _ S' _ _ hu' hfree' hcle' (h.step ho' hdNN huq hwait Y hun hdpp I (fun b ⟨f,M,V⟩=>(cF.mem h.own f M).2 b V) hs hown (fun k hk=>t8 σ x hk) hv hch')
   ·rw [ei hw]at h6 ⊢
    obtain⟨x,hown,hv⟩:=h6
    exact⟨fun _ _=>trivial,ih _ _ _ S _ _ hu' hfree' hcle' (h.step ho' hdNN huq hwait Y hun hdpp (ez.refl la _ _) (fun _ V=>V.elim) h.sat hown (fun k hk=>t8 σ x hk) hv hch')⟩
variable{O:List OE}
def gw{id:Nat}(m:Nat)(ts:List TS)(es:List Bool)(Ss:List ((Nat->OI)->List OE))(hO:Ss[0]? =some fun _=>O)(hm:E.P.follows .mixedOrders=true)(hsl:pz E.N.n [] (L.take m)=true)(hlen:ts.length=(L.take m).length)(hesl:es.length=(L.take m).length)(hch:z7 L es=true)(D:qm L (L.take m).length (L.drop m).length=true)(hd:DS E G L ts Ss es 0 0 (L.take m) es)(k: ∀σ:Nat->OI,RG E L.toArray Q (L.drop m) (B7 Ss (dW es es.length) σ) (yj (L.take m) (DB ts σ) G)):CG E Q (.region id L.toArray true) O G:=fun a w S st=>by
 have hL:L=L.take m++L.drop m:=(pe m L).symm
 generalize L.take m=l at hL hsl hlen hesl D hd k
 generalize L.drop m=t at hL D k
 subst hL
 refine wpIn_region_any hm ?_
 obtain⟨he,hs⟩:=pT (w:=w) st.sat
 have hO0:B7 Ss 0 (fun _=>nh)=O:=by unfold B7;rw [hO]
 refine xN hsl hlen hesl hd hch D (fun a w S σ st=>k σ a w S st) _ _ _ _ S (fun _=>nh) 0 ?_ (fun j _=>?_) (ky _)
  ⟨st.ext.step0 he,hs,by rw [hO0];exact st.own.ext0 he,st.facts.size,st.facts.defers,by simp,fun j o hj hdone=>?_,fun k t hk _=>st.facts.at_ k t hk,fun j o d t hj hdone=>?_,fun j p hdone=>?_,fun k _=>⟨fun hdone=>?_,fun h=>(by omega)⟩⟩
 ·unfold gz;rw [Al,Aj];simp
 ·simp [qy];split<;>rfl
 ·simp [qy]at hdone
  split at hdone<;>simp at hdone
 ·simp [qy]at hdone
  split at hdone<;>simp at hdone
 ·simp [qy]at hdone
  split at hdone<;>simp at hdone
 ·simp [qy]at hdone
  split at hdone<;>simp at hdone
def qD{p:Nat->(Nat->OI)->Prop}{lo:Nat}(h: ∀σ,p lo σ): ∀c σ,lo<=c->c<=lo->p c σ:=fun c σ Y H=>by
 have:c=lo:=by omega
 subst this;exact h σ
def vn{p:Nat->(Nat->OI)->Prop}{lo hi:Nat}(h: ∀σ,p lo σ)(k: ∀c σ,lo+1<=c->c<=hi->p c σ): ∀c σ,lo<=c->c<=hi->p c σ:=fun c σ Y H=>by
 by_cases e:c=lo
 ·subst e;exact h σ
 ·exact k c σ (by omega) H
variable{after:Array Edge}{g:Option (Nat×Bool)}{ok:α->Prop}{op:Op}{pos:String}{post:OI->List OE}
def uT{ty:TypeId}(hnd: ∀c,op≠ .defer c)(h: ∀a w S,gc w S->cF E.base E.B w S O->db E.N S a G->E.base<=w.heap.size-> ∃w' S' x,(execOp a.eval ⟨none,op,ty,pos,after,g⟩).run E.P w= .ok .skip w' /\ez (qP O) w S w' S' /\gc w' S' /\cF E.base E.B w' S' (post x)):
  EffOK E O G ⟨none,op,ty,pos,after,g⟩ post (fun _=>qF):=fun a w S hs ho M V=>by
 obtain⟨w',S',x,Y,H,h3,h4⟩:=h a w S hs ho M V
 refine⟨hnd,?_⟩
 rw [Y]
 exact⟨undef,S',x,rfl,H,h3,h4,trivial⟩

abbrev HL:=List (Nat×Value)
def rx:HL->Nat->Option Value
 |[],_=>none
 |p::hs,o=>bif Nat.beq p.1 o then some p.2 else rx hs o
def p7: ∀{hs:HL} {o:Nat} {v:Value},rx hs o=some v->(o,v)∈hs
 |[],_,_,h=>by cases h
 |p::hs,o,v,h=>by
  unfold rx at h
  by_cases V:Nat.beq p.1 o=true
  ·rw [V]at h
   have e1:=kB V
   have e2:p.2=v:=my h
   subst e1 e2
   exact k5 ..
  ·rw [q8]at V
   rw [V]at h
   exact nf _ (p7 h)
def rH{α:Type}(r:Rp α)(hs:HL):Rp α where
 sz:=r.sz
 agg:=r.agg
 rc:=fun S cs x=>r.rc S cs x/\ ∀p∈hs,cs[p.1]? =some p.2
 mono:=fun h k=>⟨r.mono h k.1,k.2⟩
 len:=fun k=>r.len k.1
 one:=fun k=>r.one k.1
 sc:=r.sc
variable{cs:List Value}{off:Nat}
def FT{hs:HL}{get:α->β}(h:jE r off q get):jE (rH r hs) off q get:=fun S cs x k=>h S cs x k.1
def BF(h:cs[off]? =some v):(cs.drop off).take 1=[v]:=by
 have hlt:=(mH.1 h).1
 rw [r0 hlt,(mH.1 h).2]
 rfl
def IB{hs:HL}(h:rx hs off=some v):jE (rH r hs) off rV (fun _=>v):=fun S cs x k=>by
 have Y:=k.2 _ (p7 h)
 exact⟨BF Y,r.one k.1 v (pq Y)⟩
def HZ(z:List Value):HL->Prop
 |[]=>True
 |p::hs=>z[p.1]? =some p.2/\HZ z hs
variable{z:List Value}
def HZ.all: ∀{hs:HL},HZ z hs-> ∀p∈hs,z[p.1]? =some p.2
 |_::_,⟨h,_⟩,_,.head _=>h
 |_::_,⟨_,h⟩,_,.tail _ hm=>HZ.all h _ hm
def zH{x:α}{hs:HL}(h: ∀S,r.rc S z x)(k:HZ z hs): ∀S,(rH r hs).rc S z x:=fun S=>⟨h S,k.all⟩
def FR(hs:HL)(off sz:Nat):Bool:=hs.all fun p=>Nat.blt p.1 off||Nat.ble (off+sz) p.1
def Id(hs:HL)(off sz:Nat)(v:Option Value):HL->Prop
 |[]=>True
 |p::l=>((v=some p.2/\p.1=off/\sz=1)\/(rx hs p.1=some p.2/\(Nat.blt p.1 off||Nat.ble (off+sz) p.1)=true))/\Id hs off sz v l
variable{sz:Nat}
def Id.all{hs:HL}{v:Option Value}: ∀{l:HL},Id hs off sz v l-> ∀p∈l,(v=some p.2/\p.1=off/\sz=1)\/(rx hs p.1=some p.2/\(Nat.blt p.1 off||Nat.ble (off+sz) p.1)=true)
 |_::_,⟨h,_⟩,_,.head _=>h
 |_::_,⟨_,h⟩,_,.tail _ hm=>Id.all h _ hm
def s9{ds:List Value}{k:Nat}(hl:ds.length=sz)(hoff:off+sz<=cs.length)(h:(Nat.blt k off||Nat.ble (off+sz) k)=true):(cs.take off++ds++cs.drop (off+sz))[k]? =cs[k]? :=by
 simp only [vf,pc,Nat.ble_eq]at h
 have D:(cs.take off).length=off:=by simp;omega
 rcases h with h|h
 ·rw [vj (by simp;omega),vj (by omega),tN h]
 ·rw [tf (by simp;omega),qg]
  congr 1
  simp only [hT,D,hl];omega
def Dg{ds:List Value}(hd:ds=[v])(hoff:off+1<=cs.length):(cs.take off++ds++cs.drop (off+1))[off]? =some v:=by
 subst hd
 have D:(cs.take off).length=off:=by simp;omega
 rw [vj (by simp;omega),tf (by omega),D,Nat.sub_self]
 rfl
variable{y:α}
def G2{hs:HL}{set:α->β->α}(h:ff r off q set)(hk:FR hs off q.sz=true)(hoff:Nat.ble (off+q.sz) r.sz=true):ff (rH r hs) off q set:=fun S cs x ds y Y H=>by
 refine⟨h S cs x ds y Y.1 H,fun p hp=>?_⟩
 have hl:=r.len Y.1
 rw [s9 (q.len H) (by have:=lL hoff;omega) (kz.1 hk p hp)]
 exact Y.2 _ hp
variable{aT U:TypeId}{hb:MV β}{agg:Bool}{bytes cap:Nat}{dst:Option Tmp}{ops:Array Oper}{rest:List Oper}{xs:List α}
section
variable{e:Exit}
section
variable{ty:TypeId}
def qe{t:OI->Ty}(h:EffOK E O G ⟨none,op,ty,pos,after,none⟩ post t)(k: ∀x,RG E ops Q rest (post x) G):RG E ops Q (⟨none,op,ty,pos,after,none⟩::rest) O G:= .of rfl fun a w S st=>
 jv (fun a' w' ⟨v,S',x,ha,I,hs,ho,hv⟩=>by
  subst ha
  exact k x _ _ S' ⟨st.ext.step I fun b ⟨f,M,V⟩=>(cF.mem st.own f M).2 b V,hs,ho,st.facts.mono I.keep⟩) (h a w S st.sat st.own st.facts st.base_le)
def eQ{γ:Type}{r' :Rp γ}{x:α}{x' :γ}{y:β}{v:Operand}(ti:TI E.P U sz bytes agg z)(hsz:q.sz=sz)(hset:kU r r' off q x y x')(hoff:Nat.ble (off+q.sz) r.sz=true)(hp:aD E.N G p (tV (aq b off)))(hv:aD E.N G v (X q y)):EffOK E (bx r aT b x::O) G ⟨none,.store U p v,ty,pos,after,g⟩ (fun _=>bx r' aT b x' ::O) (fun _=>qF):=uT (fun _ h=>(by cases h)) fun a w S hs ho M V=>by
 have Y:a.eval p=aq b off:=hp S a M
 obtain⟨ds,H,h3⟩:=hv S a M
 obtain⟨⟨hno,cur,h5,h6⟩,_⟩:=ho.1
 have hl:=r.len h6
 have hoff' :=lL hoff
 obtain⟨w',hr,e1,e2,e3,e4,e5,e6⟩:=fk ti hsz h3 h5 (off:=off) (by simp at hl;omega)
 have hrun:(execOp a.eval ⟨none,.store U p v,ty,pos,after,g⟩).run E.P w= .ok .skip w' :=by
  simp [execOp,Y,H,Instr.storeAt,aq,Instr.sureAddr,hr]
 obtain⟨g1,g2,g3⟩:=kq (O:=O) hs (bx r aT b x) (bx r' aT b x') ho (fun _=>rX) (fun _=>rX) ⟨e1,e2,e3,e4.1,e4.2⟩ e6 ⟨hno,_,e5,by simpa using hset S _ _ h6 h3⟩ hno
 exact⟨w',S,nh,hrun,g1.more fun k hk=>⟨_,k5 ..,hk⟩,g2,g3⟩
def uS{set:α->β->α}{hs hs' :HL}{x:α}{y:β}{u:Value}{v:Operand}(ti:TI E.P U 1 bytes false z)(hsz:q.sz=1)(hag:q.agg=false)(hset:ff r off q set)(hoff:Nat.ble (off+1) r.sz=true)(hk:Id hs off 1 (some u) hs')(hp:aD E.N G p (tV (aq b off)))(hv:aD E.N G v (X q y))(hu:aD E.N G v (tV u)):EffOK E (bx (rH r hs) aT b x::O) G ⟨none,.store U p v,ty,pos,after,g⟩ (fun _=>bx (rH r hs') aT b (set x y)::O) (fun _=>qF):=uT (fun _ h=>(by cases h)) fun a w S hsat ho M V=>by
 have Y:a.eval p=aq b off:=hp S a M
 obtain⟨ds,H,h3⟩:=hv S a M
 have hu' :a.eval v=u:=hu S a M
 obtain⟨⟨hno,cur,h5,h6⟩,_⟩:=ho.1
 have hl:=r.len h6.1
 have hoff' :=lL hoff
 have hdl:=q.len h3
 have hds:ds=[u]:=by
  obtain⟨d,hd⟩:=List.length_eq_one_iff.1 (by rw [hdl,hsz]:ds.length=1)
  subst hd
  have e1:q.val [d]=d:=by simp [Rp.val,hag]
  rw [H,e1]at hu'
  rw [hu']
 obtain⟨w',hr,e1,e2,e3,e4,e5,e6⟩:=fk ti hsz h3 h5 (off:=off) (by simp at hl;omega)
 have hrun:(execOp a.eval ⟨none,.store U p v,ty,pos,after,g⟩).run E.P w= .ok .skip w' :=by
  simp [execOp,Y,H,Instr.storeAt,aq,Instr.sureAddr,hr]
 rw [hsz]at e5
 have hnew:(rH r hs').rc S (cur.toList.take off++ds++cur.toList.drop (off+1)) (set x y):=by
  have h7:=hset S _ _ _ _ h6.1 h3
  rw [hsz]at h7
  refine⟨h7,fun p hp=>?_⟩
  rcases hk.all p hp with⟨f1,f2,_⟩|⟨f1,f2⟩
  ·rw [f2]
   exact Dg (by rw [hds,my f1]) (by omega)
  ·rw [s9 (by rw [hdl,hsz]) (by omega) f2]
   exact h6.2 _ (p7 f1)
 obtain⟨g1,g2,g3⟩:=kq (O:=O) hsat (bx (rH r hs) aT b x) (bx (rH r hs') aT b (set x y)) ho (fun _=>rX) (fun _=>rX) ⟨e1,e2,e3,e4.1,e4.2⟩ e6 ⟨hno,_,e5,by simpa using hnew⟩ hno
 exact⟨w',S,nh,hrun,g1.more fun k hk=>⟨_,k5 ..,hk⟩,g2,g3⟩
end
section
variable{ty:TypeId}
def Cz{hs:HL}{x:α}{u:Value}(ti:TI E.P U 1 bytes false z)(hk:rx hs off=some u)(hm:bx (rH r hs) aT b x∈O)(hp:aD E.N G p (tV (aq b off))):
  bJ E O G ⟨dst,.load U p,ty,pos,after,g⟩ (tV u):=(be (q:=rV) ti rfl rfl (IB hk) hm hp).imp fun _ _ h=>(mA.1 h).1
def eg{q:Rp α}{r:Rp β}{hs:HL}{x:β}{hb:TypeId}{l:Option Nat}(ti:TI E.P U 1 bytes false z)(hk:rx hs off=some (aM l cap xs.length))(hm:bx (rH r hs) aT b x∈O)(hm2:tip q hb l cap xs∈O)(hp:aD E.N G p (tV (aq b off))):
  bJ E O G ⟨dst,.load U p,ty,pos,after,g⟩ (tO q l cap xs):=fun a w S hs' ho M=>
 jv (fun _ _ ⟨v,S',Y,H,h3,h4⟩=>⟨v,S',Y,H,h3,h4,by
  have h5:v=aM l cap xs.length:=h4
  rw [h5]
  exact jV (((ho.ext0 H).mem _ hm2).1)⟩) (Cz (g:=g) (ty:=ty) (pos:=pos) (after:=after) (dst:=dst) ti hk hm hp a w S hs' ho M)
def D6{t:Ty}(Y: ∀S v,t.p S v->v.oneCell' =true)(I:aD E.N G x t):bJ E O G ⟨dst,.box aT x,ty,pos,after,g⟩ (bp (rT t) ()):=
 CB (fun S a M=>tRT.2 ⟨Y _ _ (I S a M),I S a M⟩)
end
def D1:HL->HL->Prop
 |[],_=>True
 |p::l,hs=>rx hs p.1=some p.2/\D1 l hs
def D1.all{hs:HL}: ∀{l:HL},D1 l hs-> ∀p∈l,p∈hs
 |_::_,⟨h,_⟩,_,.head _=>p7 h
 |_::_,⟨_,h⟩,_,.tail _ hm=>D1.all h _ hm
end

variable{O' :List OE}
def EffOK.perm{t:OI->Ty}(h:EffOK E O' G o post t)(k: ∀{w S},cF E.base E.B w S O->cF E.base E.B w S O')(m: ∀f∈O',f∈O):EffOK E O G o post t:=fun a w S hs ho M V=>
 jv (fun _ _ ⟨v,S',x,Y,H,h3,h4,h5⟩=>⟨v,S',x,Y,H.more fun _ ⟨f,M,hk⟩=>⟨f,m f M,hk⟩,h3,h4,h5⟩) (h a w S hs (k ho) M V)
variable{x0 x1 x2 x3 x4:OE}
namespace EffOK
section
variable{t:OI->Ty}
def fr1(h:EffOK E (x1::x0::O) G o post t):EffOK E (x0::x1::O) G o post t:=h.perm (fun hw=>cF.swap hw) (fun f M=>by simp only [eV]at M ⊢;rcases M with h|h|h<;>simp [h])
def fr2(h:EffOK E (x2::x0::x1::O) G o post t):EffOK E (x0::x1::x2::O) G o post t:=h.perm (fun hw=>nd hw) (fun f M=>by simp only [eV]at M ⊢;rcases M with h|h|h|h<;>simp [h])
def fr3(h:EffOK E (x3::x0::x1::x2::O) G o post t):EffOK E (x0::x1::x2::x3::O) G o post t:=h.perm (fun hw=>nc hw) (fun f M=>by simp only [eV]at M ⊢;rcases M with h|h|h|h|h<;>simp [h])
def fr4(h:EffOK E (x4::x0::x1::x2::x3::O) G o post t):EffOK E (x0::x1::x2::x3::x4::O) G o post t:=h.perm (fun hw=>nb hw) (fun f M=>by simp only [eV]at M ⊢;rcases M with h|h|h|h|h|h<;>simp [h])
def fr6{x5 x6:OE}(h:EffOK E (x6::x0::x1::x2::x3::x4::x5::O) G o post t):EffOK E (x0::x1::x2::x3::x4::x5::x6::O) G o post t:=h.perm (fun hw=>o4 hw) (fun f M=>by simp only [eV]at M ⊢;rcases M with h|h|h|h|h|h|h|h<;>simp [h])
def fr7{x5 x6 x7:OE}(h:EffOK E (x7::x0::x1::x2::x3::x4::x5::x6::O) G o post t):EffOK E (x0::x1::x2::x3::x4::x5::x6::x7::O) G o post t:=h.perm (fun hw=>u5 hw) (fun f M=>by simp only [eV]at M ⊢;rcases M with h|h|h|h|h|h|h|h|h<;>simp [h])
def post_imp{post' :OI->List OE}(h:EffOK E O G o post t)(k: ∀{w S x},cF E.base E.B w S (post x)->cF E.base E.B w S (post' x)):EffOK E O G o post' t:=fun a w S hs ho M V=>
 jv (fun _ _ ⟨v,S',x,Y,H,h3,h4,h5⟩=>⟨v,S',x,Y,H,h3,k h4,h5⟩) (h a w S hs ho M V)
end
end EffOK
variable{ats:Array TypeId}{mm:Bool}{ys:List α}
section
variable{ty:TypeId}
def zU{zs:List α}{v:α}{i:Int}(ti:TI E.P U sz bytes agg z)(hsz:r.sz=sz)(hy:eG xs i=some y)(hz:xs.set i.toNat v=zs)(hp:aD E.N G p (tV (aq b (i.toNat*r.sz))))(hv:aD E.N G x (X r v)):EffOK E (bx (kE r n) aT b xs::O) G ⟨none,.store U p x,ty,pos,after,g⟩ (fun _=>bx (kE r n) aT b zs::O) (fun _=>qF):=uT (fun _ h=>(by cases h)) fun a w S hsat hown M hbase=>by
 subst hz
 have Y:a.eval p=aq b (i.toNat*r.sz):=hp S a M
 obtain⟨ds,H,h3⟩:=hv S a M
 obtain⟨⟨hno,cur,h5,h6⟩,_⟩:=hown.1
 obtain⟨h0,hy'⟩:=fy hy
 have hlt:i.toNat<xs.length:=(mH.1 hy').1
 have hl:=ju h6.2
 simp only [xG]at hl
 have hmul:i.toNat*r.sz+r.sz<=xs.length*r.sz:=by rw [<-Nat.succ_mul];exact q9 _ hlt
 obtain⟨w',hr,e1,e2,e3,e4,e5,e6⟩:=fk ti hsz h3 h5 (off:=i.toNat*r.sz) (by omega)
 have hrun:(execOp a.eval ⟨none,.store U p x,ty,pos,after,g⟩).run E.P w= .ok .skip w' :=by
  simp [execOp,Y,H,Instr.storeAt,aq,Instr.sureAddr,hr]
 obtain⟨g1,g2,g3⟩:=kq (O:=O) hsat (bx (kE r n) aT b xs) (bx (kE r n) aT b (xs.set i.toNat v)) hown (fun _=>rX) (fun _=>rX) ⟨e1,e2,e3,e4.1,e4.2⟩ e6 ⟨hno,_,e5,by rw [vF];exact h6.1,ro h3 h6.2 hlt⟩ hno
 exact⟨w',S,nh,hrun,g1.more fun c hc=>⟨_,k5 ..,hc⟩,g2,g3⟩

section
def iF{x:α}(ti:TI E.P aT sz bytes agg z)(I: ∀S,r.rc S z x):
  EffOK E O G ⟨some d,.alloc aT,ty,pos,after,g⟩ (fun i=>bx r aT (i.h 0).2 x::O) (fun i=>tV (aq (i.h 0).2 0)):=fun a w S hs ho M V=>by
 obtain⟨zv,hzr,hzc⟩:=ti.zero w
 obtain⟨he,hs',hno⟩:=eX (w:=w) (.cells z.toArray aT (0,0)) hs
 have hrun:(execOp a.eval ⟨some d,.alloc aT,ty,pos,after,g⟩).run E.P w= .ok (.value (aq w.heap.size 0)) (w.alloc (.cells z.toArray aT (0,0))):=by
  simp [execOp,Instr.alloc,hzr,newVar,newRow,hzc,aq]
 refine⟨fun c h=>(by cases h),?_⟩
 rw [hrun]
 exact⟨_,S,oi none w.heap.size,rfl,he.more fun _ V=>V.elim,hs',nA ho he (e:=bx r aT w.heap.size x) ⟨hno,z.toArray,wv w _,by simpa using I S⟩ (fun b V=>tP V.symm) V,rfl⟩
def wi{xs:List Operand}(hc:ah E.P f=true)(hs:ev E.P f ts false r aT ys)(I:ew E.N G xs ts):
  EffOK E O G ⟨some d,.call ⟨.value (.func f),xs.toArray,ats⟩,ty,pos,after,g⟩ (fun i=>dX r aT (i.h 0).1 (i.h 0).2 ys::O) (fun i=>tV (aM (i.h 0).1 (i.h 0).2 ys.length)):=wh (mm:=false) hc hs I (fun _ _ _ _ _=>rfl)
end
section
def cd{l:Option Nat}{o i:Nat}{j:Int}(M:co E.P aT i=some (off,sz))(h0:Nat.beq sz 0=false)(hm:gI mm r U l cap xs∈O)(hy:eG xs j=some y)(hp:aD E.N G p (tV (gu l o)))(he:o+off=n):
  bJ E O G ⟨dst,.fieldAddr aT p i,ty,pos,after,g⟩ (tV (gu l n)):=by
 subst he
 exact vx M h0 hm hy hp
def eK(I:aD E.N G x (tV (aq b off))):bJ E O G ⟨dst,.nilCheck x,ty,pos,after,g⟩ (tV (aq b off)):= .of_pure fun a w S _ _ M=>by
 have Y:a.eval x=aq b off:=I S a M
 exact⟨aq b off,by simp [execOp,Y,aq],rfl⟩
def wN(I:aD E.N G x (bp r y)):bJ E O G ⟨dst,.nilCheck x,ty,pos,after,g⟩ (bp r y):= .of_pure fun a w S _ _ M=>by
 have h0:=I S a M
 obtain⟨b,off,c,U,fr,Y,H,h3⟩:=h0
 exact⟨_,by simp [execOp,Y],b,off,c,U,fr,rfl,H,h3⟩
def mY{u:Value}(ti:TI E.P U 1 bytes false z)(hm:bx rV aT b u∈O)(hp:aD E.N G p (tV (aq b 0))):
  bJ E O G ⟨dst,.load U p,ty,pos,after,g⟩ (tV u):=(be (q:=rV) (get:=fun x=>x) ti rfl rfl bC hm hp).imp fun _ _ h=>(mA.1 h).1
def gq{t:Ty}(ti:TI E.P U 1 bytes false z)(hp:aD E.N G p (bp (rT t) ())):bJ E O G ⟨dst,.load U p,ty,pos,after,g⟩ t:=CA ti hp
end
def na(h:O=O')(k:RG E ops Q rest O' G):RG E ops Q rest O G:=by subst h;exact k
def DA{e:Exit}(h:O=O')(k:AT E Q e O' G):AT E Q e O G:=by subst h;exact k
def hW{N:Fr}{u:Value}(h:aD N G x (tV u))(ho:u.oneCell' =true):aD N G x (X rV u):=fun S a M=>mA.2 ⟨h S a M,ho⟩
end

variable{P:Program}
def xT{l:Option Nat}{t' e' :TypeId}(D:P.underlying t' =some (.slice e'))(h:tu mm r U l cap xs w S)(hs:cW xs lo (xs.length:Int)=some ys):
  ∃news,Src P r.sz t' (jU r.sz l cap lo.toNat ys.length) ys.length news w/\mD r S news ys:=by
 obtain⟨cells,Y,H,_⟩:=h
 obtain⟨lo',m,rfl,hm,h3,h4,rfl⟩:=dH hs
 have hm' :m=xs.length:=by omega
 subst hm'
 rw [xE,tK]
 cases l with
 |none=>
  have I:xs=[]:=ra Y.1
  subst I
  exact⟨[],by simpa [jU] using Src.ofNil w D 0,by simp [mD]⟩
 |some b=>
  obtain⟨cur,g1,g2,g3,g4,g5⟩:=Y
  have hlen:(xs.drop lo').length=xs.length-lo' :=by simp
  have hcl:=ju H
  have hsp:xs=xs.take lo' ++xs.drop lo' :=(pe lo' xs).symm
  have htl:(xs.take lo').length=lo' :=by simp;omega
  have hr:mD r S (cells.drop (lo' *r.sz)) (xs.drop lo'):=by
   rw [hsp]at H
   have:=(lk H).2
   rwa [htl]at this
  have hmul:lo' *r.sz<=xs.length*r.sz:=q9 _ h3
  refine⟨cells.drop (lo' *r.sz),?_,hr⟩
  unfold jU
  refine Src.ofSlice w D _ _ _ _ (ju hr) (fun j u hu=>?_) (tz hr)
  by_cases hc:cap=lo'
  ·have:xs.drop lo' =[]:=tM (by omega)
   rw [this]at hr
   have hr' :cells.drop (lo' *r.sz)=[]:=hr
   rw [hr']at hu;simp at hu
  ·simp only [hc,ov]
   rw [fe,rK g1]
   rw [qg,<-g5]at hu
   have hj:lo' *r.sz+j<xs.length*r.sz:=by
    have:=(mH.1 hu).1
    simp at this;omega
   rw [tN hj]at hu
   simpa using hu
section
variable{ty:TypeId}
def wm{l:Option Nat}{yt:TypeId}(D:E.P.underlying t=some (.slice e))(hm:gI mm r U l cap xs∈O)(hs:cW xs lo (xs.length:Int)=some ys)(I:aD E.N G x (tV (jU r.sz l cap lo.toNat ys.length)))(hd:Nat.blt d E.N.n=true)(k: ∀b,(b=true->ys=[])->RG E ops Q rest O ((d,X rB b)::G)):RG E ops Q (⟨some d,.binOp .eql t x (.const (.slice none 0 0)) yt,ty,pos,after,none⟩::rest) O G:= .of rfl fun a w S st=>by
 have Y:a.eval x=jU r.sz l cap lo.toNat ys.length:=I S a st.facts
 obtain⟨⟨cells,hraw,_⟩,_⟩:=st.own.mem _ hm
 have hcn:a.eval (.const (.slice none 0 0))= .slice none 0 0:=rfl
 cases l with
 |none=>
  have hx0:xs=[]:=ra hraw.1
  have hy0:ys=[]:=by
   obtain⟨lo',m,_,_,_,_,rfl⟩:=dH hs
   subst hx0;simp
  have h3:(Op.equal t (.slice none 0 0) (.slice none 0 0)).run E.P w= .ok true w:=rk fun d=>by
   simp [Op.equalIn,gy D]
  have hrun:(execOp a.eval ⟨some d,.binOp .eql t x (.const (.slice none 0 0)) yt,ty,pos,after,none⟩).run E.P w= .ok (.value (.bool true)) w:=by
   simp [execOp,Y,jU,hcn,eqGuard,binOp,h3]
  refine⟨fun c h=>(by cases h),?_⟩
  rw [hrun]
  exact k true (fun _=>hy0) _ _ S (st.step (ez.refl _ _ _) st.sat hd (fz.2 rfl))
 |some b=>
  obtain⟨ad,hv⟩: ∃ad,jU r.sz (some b) cap lo.toNat ys.length= .slice (some ad) ys.length (cap-lo.toNat):=⟨_,rfl⟩
  have h3:(Op.equal t (.slice (some ad) ys.length (cap-lo.toNat)) (.slice none 0 0)).run E.P w= .ok false w:=rk fun d=>by
   simp [Op.equalIn,gy D]
  have hrun:(execOp a.eval ⟨some d,.binOp .eql t x (.const (.slice none 0 0)) yt,ty,pos,after,none⟩).run E.P w= .ok (.value (.bool false)) w:=by
   simp [execOp,Y,hv,hcn,eqGuard,binOp,h3]
  refine⟨fun c h=>(by cases h),?_⟩
  rw [hrun]
  exact k false (fun e=>(by cases e)) _ _ S (st.step (ez.refl _ _ _) st.sat hd (fz.2 rfl))
def u3{t' :TypeId}{l l2:Option Nat}{cap2:Nat}{zs us:List α}{y:Operand}(ti:TI E.P aT sz bytes agg z)(hsz:r.sz=sz)(hz:Nat.beq z.length sz=true)(h0:Nat.blt 0 sz=true)(h128:Nat.ble bytes 2048=true)(D:E.P.underlying t=some (.slice aT))(ht' :t' =t)(hd:Nat.blt d E.N.n=true)(I:aD E.N G x (tV (aM l cap n)))(hm:gI mm r U l2 cap2 us∈dX r aT l cap xs::O)(hs:cW us lo (us.length:Int)=some ys)(hy:aD E.N G y (tV (jU r.sz l2 cap2 lo.toNat ys.length)))(happ:kF xs ys=some zs)(k: ∀l' cap',RG E ops Q rest (dX r aT l' cap' zs::O) ((d,tV (aM l' cap' zs.length))::G))(hn:n=xs.length:=by rfl):
  RG E ops Q (⟨some d,.call ⟨.builtin .append,#[x,y],#[t,t']⟩,ty,pos,after,none⟩::rest) (dX r aT l cap xs::O) G:=by
 subst ht'
 exact qY (u:=fun cap' l' =>tV (aM l' cap' zs.length)) ti hsz hz h0 h128 D hd I (fun a w S st=>by
  have Y:a.eval y=jU r.sz l2 cap2 lo.toNat ys.length:=hy S a st.facts
  rw [Y]
  exact xT D (st.own.mem _ hm).1 hs) happ (fun _ _ _ _ _=>rfl) k hn
end

abbrev B8(α tD:Type):=(σ:Type)->(α->σ->Option (Bool×σ))->σ->Option (σ×tD)
def AU(P:Program){α tD:Type}(args:α->List Ty)(it:B8 α tD)(Ob:tD->OI->List OE)(fid:FuncId)(cap:Array Value)(fp:Nat->Prop)(w:World)(S:SH):Prop:=
 ∀(σ:Type) (y:α->σ->Option (Bool×σ)) (s:σ) (R:σ×tD),it σ y s=some R-> ∀hx yv,Im P args y hx yv-> ∀e,hx s e->e.p w S->(∀k,e.fp k-> ¬fp k)->
  Calls P fid (#[yv]++cap) w fun en w' => ∃e' S' j,(∃v,en= .returned v)/\hx R.1 e' /\ez (fun k=>e.fp k\/fp k) w S w' S' /\gc w' S' /\e'.p w' S' /\cF 0 la w' S' (Ob R.2 j)/\(∀k,e'.fp k\/qP (Ob R.2 j) k->(e.fp k\/fp k)\/w.heap.size<=k)/\ ∀k,e'.fp k-> ¬qP (Ob R.2 j) k
def zK(P:Program){α tD:Type}(args:α->List Ty)(it:B8 α tD)(Ob:tD->OI->List OE)(v:Value)(fp:Nat->Prop):OE where
 fp:=fp
 p:=fun w S=>(∀k,fp k->k<w.heap.size)/\ ∃fid cap,v= .func (.func fid) #[] cap/\ah P fid=true/\
  ∀C w' S',ez C w S w' S' ->(∀k,fp k-> ¬C k)->gc w' S' ->AU P args it Ob fid cap fp w' S'
 here:=fun h k hk=>h.1 k hk
 kept:=by
  rintro C w w' S S' ⟨Y,fid,cap,H,h3,h4⟩ k hC
  refine⟨fun b V=>zb (Y b V) k.size,fid,cap,H,h3,fun C' w'' S'' k' hC' hs=>?_⟩;exact h4 (fun b=>C b\/C' b) w'' S'' ((k.more fun b V=> .inl V).trans (k'.more fun b V=> .inr V)) (fun b V h=>h.elim (hC b V) (hC' b V)) hs
section
variable{it:It α}
end

def rU(P:Program)(fid:FuncId){α tD:Type}(args:α->List Ty)(it:B8 α tD)(Ob:tD->OI->List OE)(O:List OE)(cts:List Ty):Prop:=
 ∀w S cap,gc w S->cF 0 la w S O->pm S cts cap->AU P args it Ob fid cap.toArray (qP O) w S
def Db(E:En){σ tD:Type}(hx:σ->OE->Prop)(R:σ×tD)(Ob:tD->OI->List OE):Ending->World->Prop:=fun en w' => ∃e' S' j,(∃v,en= .returned v)/\hx R.1 e' /\ez E.B E.w0 E.S0 w' S' /\gc w' S' /\e'.p w' S' /\cF 0 la w' S' (Ob R.2 j)/\(∀k,e'.fp k\/qP (Ob R.2 j) k->E.B k\/E.w0.heap.size<=k)/\ ∀k,e'.fp k-> ¬qP (Ob R.2 j) k
variable{B:Nat->Prop}{tD:Type}{Ob:tD->OI->List OE}{S0:SH}{args:α->List Ty}{fn:Func}{w0:World}
def rU.of{it:B8 α tD}{cts:List Ty}(M:P.funcs[f]? =some fn)(V:fn.body=some c)(hN:fn.ntmps=N)(hn:Nat.ble (cts.length+1) N=true)(h: ∀(σ:Type) (y:α->σ->Option (Bool×σ)) (s:σ) (R:σ×tD),it σ y s=some R-> ∀hx yv,Im P args y hx yv-> ∀e,hx s e-> ∀w0 S0 B,(∀k,B k->e.fp k\/ ∃f∈O,f.fp k)->
   CG ⟨P,⟨N,[]⟩,B,w0,S0,none⟩ (bodyPost P fn (Db ⟨P,⟨N,[]⟩,B,w0,S0,none⟩ hx R Ob)) c (e::O) (ol 0 (tV yv::cts))):rU P f args it Ob O cts:=by
 subst hN
 intro w S cap hs ho hc σ y s R hit hx yv hy e he hep hap
 have hown:cF w.heap.size (fun k=>e.fp k\/ ∃f∈O,f.fp k) w S (e::O):=
  ⟨⟨hep,fun k hk=> .inr (.inl hk)⟩,fun f M b V hfb=>hap b V ⟨f,M,hfb⟩,jC ho fun f M k hk=> .inr (.inr ⟨f,M,hk⟩)⟩
 have hfacts:=lv (S:=S) (ts:=tV yv::cts) (vs:=yv::cap) ⟨rfl,hc⟩ fn.ntmps (by simpa using lL hn)
 have:=jo.1 (callsIn_of_wp (F:=fw none) (n:=0) M V trivial (h σ y s R hit hx yv hy e he w S (fun k=>e.fp k\/ ∃f∈O,f.fp k) (fun _ h=>h) _ w S ⟨ez.refl _ _ _,hs,hown,hfacts⟩))
 rw [show(#[yv]++cap.toArray:Array Value)=(yv::cap).toArray from by simp]
 exact this.mono fun en w' ⟨e',S',j,Y,H,h3,h4,h5,h6,h7,h8⟩=>⟨e',S',j,Y,H,h3,h4,h5,h6,h7,h8⟩
def y6{σ:Type}{hx:σ->OE->Prop}{R:σ×tD}{e:OE}(hr:fn.results= #[])(he:hx R.1 e)(j:OI)(hO:O=Ob R.2 j):
  AT ⟨P,⟨N,[]⟩,B,w0,S0,none⟩ (bodyPost P fn (Db ⟨P,⟨N,[]⟩,B,w0,S0,none⟩ hx R Ob)) .ret (e::O) G:=fun _ _ S st=>by
 subst hO
 refine⟨st.facts.defers,_,si P fn hr _ _,e,S,j,⟨_,rfl⟩,he,st.ext,st.sat,st.own.1.1,st.own.2.2.weak,fun k hk=>?_,fun k hk ⟨f,M,hfk⟩=>st.own.2.1 f M k hk hfk⟩
 rcases hk with hk|⟨f,M,hk⟩
 ·exact(st.own.1.2 k hk).symm
 ·exact((cF.mem st.own.2.2 f M).2 k hk).symm
def B2{σ:Type}{hx:σ->OE->Prop}{R:σ×tD}{e:OE}(hr:fn.results= #[])(he:hx R.1 e)(j:OI)(hO:O=Ob R.2 j):
  AT ⟨P,⟨N,[]⟩,B,w0,S0,none⟩ (bodyPost P fn (Db ⟨P,⟨N,[]⟩,B,w0,S0,none⟩ hx R Ob)) .normal (e::O) G:=fun a w S st=>y6 hr he j hO a w S st
def rO(P:Program)(f:FuncId)(ts:List Ty)(O1:List OE){α tD:Type}(args:α->List Ty)(it:B8 α tD)(Ob:tD->OI->List OE):Prop:=
 ∀w S vs,gc w S->pm S ts vs->cF 0 la w S O1->Calls P f vs.toArray w fun e w' => ∃v fp S',e= .returned v/\ez (qP O1) w S w' S' /\gc w' S' /\(zK P args it Ob v fp).p w' S' /\ ∀k,fp k->qP O1 k\/w.heap.size<=k
def Da(E:En)(O1:List OE){α tD:Type}(args:α->List Ty)(it:B8 α tD)(Ob:tD->OI->List OE):Ending->World->Prop:=fun e w' => ∃v fp S',e= .returned v/\ez E.B E.w0 E.S0 w' S' /\gc w' S' /\(zK E.P args it Ob v fp).p w' S' /\ ∀k,fp k->qP O1 k\/E.w0.heap.size<=k
variable{O1:List OE}
def rO.of{it:B8 α tD}(M:P.funcs[f]? =some fn)(V:fn.body=some c)(hN:fn.ntmps=N)(hn:Nat.ble ts.length N=true)(h: ∀w0 S0,CG ⟨P,⟨N,[]⟩,qP O1,w0,S0,none⟩ (bodyPost P fn (Da ⟨P,⟨N,[]⟩,qP O1,w0,S0,none⟩ O1 args it Ob)) c O1 (ol 0 ts)):rO P f ts O1 args it Ob:=by
 subst hN
 intro w S vs hs hv ho
 exact jo.1 (callsIn_of_wp (F:=fw none) (n:=0) M V trivial (h w S _ w S ⟨ez.refl _ _ _,hs,jC ho fun f M k hk=> .inr ⟨f,M,hk⟩,lv hv _ (lL hn)⟩))
variable{fp:Nat->Prop}
def B0{k:Nat}{it:B8 α tD}(hr:fn.results= #[.tmp k])(hk:bu G k=some (tV v)):
  AT ⟨P,⟨N,[]⟩,qP O1,w0,S0,none⟩ (bodyPost P fn (Da ⟨P,⟨N,[]⟩,qP O1,w0,S0,none⟩ O1 args it Ob)) .ret (zK P args it Ob v fp::O) G:=fun a w S st=>by
 have hv:a.tmps.getD k undef=v:=st.facts.at_ k _ hk
 exact⟨st.facts.defers,_,ir P fn k hr _ _,v,fp,S,by rw [hv],st.ext,st.sat,st.own.1.1,fun k hk=>(st.own.1.2 k hk).symm⟩
section
variable{ty:TypeId}
def Ah{xs:List Operand}(O1 Or:List OE){it:B8 α tD}(hO:O=O1++Or)(hc:ah E.P f=true)(hs:rO E.P f ts O1 args it Ob)(I:ew E.N G xs ts)(hd:Nat.blt d E.N.n=true)(k: ∀v fp,RG E ops Q rest (zK E.P args it Ob v fp::Or) ((d,tV v)::G)):
  RG E ops Q (⟨some d,.call ⟨.value (.func f),xs.toArray,ats⟩,ty,pos,after,none⟩::rest) O G:= .of rfl fun a w S st=>by
 subst hO
 have hr:(execOp a.eval ⟨some d,.call ⟨.value (.func f),xs.toArray,ats⟩,ty,pos,after,none⟩).run E.P w= .ok (.enter f (xs.map a.eval).toArray) w:=by
  simp [execOp,resolve,Act.eval,Deferred.ofValue,invoke,dN hc]
 refine⟨fun c h=>(by cases h),?_⟩
 rw [hr]
 refine(hs w S _ st.sat (I.tys st.facts) (jB st.own).1.weak).mono fun e w' ⟨v,fp,S',he,Y,H,h3,h4⟩=>⟨_,he,?_⟩
 have st' :=st.turn (O2:=[zK E.P args it Ob v fp]) Y H ⟨⟨h3,fun _ _=> .inl (ky _)⟩,fun _ h=>(by cases h),trivial⟩ (fun k ⟨f,M,hk⟩=>by
  rw [qf.1 M]at hk;exact h4 k hk)
 exact k v fp _ _ S' (st'.put hd rfl)
def xu{fid:FuncId}{O2:List OE}{it:B8 α tD}{cts:List Ty}{caps:List Operand}(hO:O=O1++O2)(hc:ah E.P fid=true)(hs:rU E.P fid args it Ob O1 cts)(hcap:ew E.N G caps cts)(hd:Nat.blt d E.N.n=true)(k: ∀v fp,RG E ops Q rest (zK E.P args it Ob v fp::O2) ((d,tV v)::G)):
  RG E ops Q (⟨some d,.makeFunc (.func fid) #[] caps.toArray,ty,pos,after,none⟩::rest) O G:= .of rfl fun a w S st=>by
 subst hO
 have hr:(execOp a.eval ⟨some d,.makeFunc (.func fid) #[] caps.toArray,ty,pos,after,none⟩).run E.P w= .ok (.value (.func (.func fid) #[] (caps.map a.eval).toArray)) w:=by simp [execOp,Instr.makeFunc]
 refine⟨fun c h=>(by cases h),?_⟩
 rw [hr]
 obtain⟨Y,H,h3⟩:=jB st.own
 have hcv:=hcap.tys st.facts
 refine k (.func (.func fid) #[] (caps.map a.eval).toArray) (qP O1) _ _ S ⟨st.ext,st.sat,?_,st.facts.put hd rfl⟩;refine cF.cons ⟨⟨fun b ⟨f,M,V⟩=>f.here (cF.mem Y f M).1 b V,fid,_,rfl,hc,fun C w' S' he hC hs' =>?_⟩,fun b ⟨f,M,V⟩=>(cF.mem Y f M).2 b V⟩ (fun f M b ⟨g,Z,V⟩=>h3 g Z f M b V) H;exact hs w' S' _ hs' (Y.weak.ext he fun f M b V=>hC b ⟨f,M,V⟩) (hcv.mono he.keep)
end

def mU(l:Nat)(r:Loop)(st:LoopState)(pd:Option Code):OE where
 fp:=fun k=>k=l
 p:=fun w S=>S l=none/\w.heap[l]? =some (.loop {r with state:=st,pending:=pd})
 here:=by
  intro w S h k hk
  subst hk
  exact(qz.1 h.2).1
 kept:=by
  intro C w w' S S' h k hC
  have hlt:=(qz.1 h.2).1
  exact⟨by rw [k.old l hlt (hC l rfl)];exact h.1,by rw [k.heap l hlt (hC l rfl)];exact h.2⟩
def E9(j:Option Nat):LoopState:=if j.isNone then .ready else .done
def D3(E:En)(l:Nat)(rec:Loop){σ ι:Type}(Oi:ι->List OE)(dat:ι->σ)(jc:Nat->Code)(r:Option Nat×σ):Ending->World->Prop:=fun en w' =>
 ∃i S',en= .returned (.bool r.1.isNone)/\dat i=r.2/\ez E.B E.w0 E.S0 w' S' /\gc w' S' /\cF E.base E.B w' S' (mU l rec (E9 r.1) (r.1.map jc)::Oi i)
def wk{α σ:Type}(f:α->σ->Option (Option Nat×σ)):α->Option Nat×σ->Option (Bool×(Option Nat×σ)):=fun x s=>
 match s.1 with
 |some _=>none
 |none=>(f x s.2).map fun r=>(r.1.isNone,r)
variable{base:Nat}{rec:Loop}{ι:Type}
section
def rq{l:Nat}{st st' :LoopState}{pd pd' :Option Code}{O:List OE}(h:cF base B w S (mU l rec st pd::O))(hs:gc w S):
  ez (fun k=>k=l) w S (w.putObj l (.loop {rec with state:=st',pending:=pd' })) S/\gc (w.putObj l (.loop {rec with state:=st',pending:=pd' })) S/\cF base B (w.putObj l (.loop {rec with state:=st',pending:=pd' })) S (mU l rec st' pd' ::O):=by
 obtain⟨hno,hl⟩:=h.1.1
 have hlt:=(qz.1 hl).1
 have hext:ez (fun k=>k=l) w S (w.putObj l (.loop {rec with state:=st',pending:=pd' })) S:=⟨rfl,rfl,rfl,iZ _,by simp,fun k _ hk=>World.putObj_heap_other hk,SH.le_refl _,fun _ _ _=>rfl⟩
 refine⟨hext,hs.same fun k o hk=>?_,⟨⟨hno,World.putObj_heap_same hlt⟩,h.1.2⟩,h.2.1,h.2.2.ext hext fun g Z k hk hkl=>h.2.1 g Z k hkl hk⟩
 have hne:k≠l:=fun e=>by subst e;rw [hno]at hk;cases hk
 exact World.putObj_heap_other hne
def B4{l:Nat}{body:Code}{R:Ending->World->Prop}(h:CG E (roundPost E.P l R) body (mU l rec .busy none::O) G):AT E (Ib E l body R) .normal (mU l rec .ready none::O) G:=fun a w S st=>by
 obtain⟨Y,H,h3⟩:=rq (st' := .busy) (pd' :=none) st.own st.sat
 obtain⟨_,hl⟩:=st.own.1.1
 exact⟨_,run_beginRound hl rfl,h a _ S ⟨st.ext.step Y (fun c hc=>st.own.1.2 c hc),H,h3,st.facts⟩⟩
def xz{l:Nat}{σ:Type}{Oi:ι->List OE}{dat:ι->σ}{jc:Nat->Code}{s2:σ}(i:ι)(hi:dat i=s2)(hO:O=Oi i):AT E (roundPost E.P l (D3 E l rec Oi dat jc (none,s2))) .normal (mU l rec .busy none::O) G:=fun a w S st=>by
 subst hO
 obtain⟨Y,H,h3⟩:=rq (st' := .ready) (pd' :=none) st.own st.sat
 obtain⟨_,hl⟩:=st.own.1.1
 exact⟨_,_,run_endRound none hl,i,S,rfl,hi,st.ext.step Y (fun c hc=>st.own.1.2 c hc),H,h3⟩
def xx{l:Nat}{σ:Type}{Oi:ι->List OE}{dat:ι->σ}{jc:Nat->Code}{s2:σ}(q:Nat)(hq:jc q= .ret)(i:ι)(hi:dat i=s2)(hO:O=Oi i):AT E (roundPost E.P l (D3 E l rec Oi dat jc (some q,s2))) .ret (mU l rec .busy none::O) G:=fun a w S st=>by
 subst hO
 obtain⟨Y,H,h3⟩:=rq (st' := .done) (pd' :=some .ret) st.own st.sat
 obtain⟨_,hl⟩:=st.own.1.1
 exact⟨_,_,run_endRound (some .ret) hl,i,S,rfl,hi,st.ext.step Y (fun c hc=>st.own.1.2 c hc),H,by rw [Option.map_some,hq];exact h3⟩
def BV{it:B8 α tD}{σ:Type}(Oi:ι->List OE)(dat:ι->σ)(jc:Nat->Code){f:α->σ->Option (Option Nat×σ)}{R:(Option Nat×σ)×tD}{g:Operand}{ps:List Nat}{assign body:Code}(hr:E.r=none)(Z:aD E.N G g (tV v))(i0:ι)(hO:O=zK E.P args it Ob v fp::Oi i0)(hit:it (Option Nat×σ) (wk f) (none,dat i0)=some R)(hps: ∀x,ps.length=(args x).length)(hpn:(ps.all fun d=>Nat.blt d E.N.n)=true)(hbody: ∀(i:ι) (x:α) (r:Option Nat×σ),f x (dat i)=some r-> ∀(l:Nat) (rec:Loop) (w1:World) (S1:SH) (B1:Nat->Prop),
   CG ⟨E.P,⟨E.N.n,[]⟩,B1,w1,S1,some l⟩ (Ib ⟨E.P,⟨E.N.n,[]⟩,B1,w1,S1,some l⟩ l body (D3 ⟨E.P,⟨E.N.n,[]⟩,B1,w1,S1,some l⟩ l rec Oi dat jc r)) assign (mU l rec .ready none::Oi i) (yf ps (args x) G))(k: ∀i' j,dat i' =R.1.2-> ∀b,(R.1.1=none->AT ⟨E.P,⟨E.N.n,sW b::E.N.ds⟩,E.B,E.w0,E.S0,E.r⟩ Q .normal (zX b::(Ob R.2 j++Oi i')) G)/\
   (∀q,R.1.1=some q->CG ⟨E.P,⟨E.N.n,sW b::E.N.ds⟩,E.B,E.w0,E.S0,E.r⟩ Q (jc q) (zX b::(Ob R.2 j++Oi i')) G)):CG E Q (.rangeFunc g ps.toArray assign body) O G:=fun a w S st=>by
 subst hO
 refine wpIn_rangeFunc fun fn _=>?_
 have hr0:(fw E.r).round=none:=hr
 have hfw:fw E.r=fw none:=by rw [hr]
 rw [hr0]
 obtain⟨rec,hrec⟩: ∃rec:Loop,rec={state:= .ready,pending:=none,fn,tmps:=a.tmps,params:=ps.toArray,assign,body,defers:=w.heap.size}:=⟨_,rfl⟩
 obtain⟨x1,x2,x3⟩:=eX (w:=w) (.deferred (some [])) st.sat
 obtain⟨y1,y2,y3⟩:=eX (w:=w.alloc (.deferred (some []))) (.loop rec) x2
 obtain⟨W1,hW1⟩: ∃W1,(w.alloc (.deferred (some []))).alloc (.loop rec)=W1:=⟨_,rfl⟩
 rw [hW1]at y1 y2
 have hsz:(w.alloc (.deferred (some []))).heap.size=w.heap.size+1:=by simp
 rw [hsz]at y3
 have hext:ez la w S W1 S:=x1.trans y1
 have hL1:W1.heap[w.heap.size+1]? =some (.loop rec):=by
  rw [<-hW1];have:=World.alloc_heap_new (w.alloc (.deferred (some []))) (.loop rec);rwa [hsz]at this
 have hK1:W1.heap[w.heap.size]? =some (.deferred (some [])):=by
  rw [y1.heap w.heap.size (by omega) (fun h=>h)];exact World.alloc_heap_new w _
 have hW1s:W1.heap.size=w.heap.size+2:=by rw [<-hW1];simp
 have hg' :a.eval g=v:=Z S a st.facts
 obtain⟨hit1,hap,hoi⟩:=st.own
 obtain⟨⟨hfp,gf,cap,hv,hcal,hcall⟩,hbase⟩:=hit1
 have hbl:=st.base_le
 have hoi1:cF E.base E.B W1 S (Oi i0):=hoi.ext0 hext
 have hlt: ∀f∈Oi i0,∀k,f.fp k->k<w.heap.size:=fun f M k hk=>f.here (cF.mem hoi f M).1 k hk
 refine⟨w.heap.size+1,[sW w.heap.size],W1,{target:= .fn (.func gf) cap,args:= #[.func (.yield (w.heap.size+1)) #[] #[]]},W1,gf,
  #[.func (.yield (w.heap.size+1)) #[] #[]]++cap,W1,?_,?_,fun _ _=>trivial,?_,fun h=>(by cases h),?_⟩
 ·rw [<-hW1,hrec];exact run_enterLoop_outer _ _ _ _ _
 ·simp only [resolve,hg',hv]
  simp [go_sem]
 ·simp [invoke,go_sem,dN hcal]
 rw [hfw]
 refine jo.2 ?_
 have hyld:Im E.P args (wk f) (fun s e=> ∃i,dat i=s.2/\e=qn S (mU (w.heap.size+1) rec (E9 s.1) (s.1.map jc)::Oi i)) (.func (.yield (w.heap.size+1)) #[] #[]):=by
  refine⟨_,rfl,?_⟩
  rintro x ⟨j0,s⟩ r hy e ⟨i,hi,rfl⟩ w2 S2 vs hs2 ⟨hle,hown⟩ hvs
  cases j0 with
  |some q=>unfold wk at hy;cases hy
  |none=>
  have hi' :dat i=s:=hi
  subst hi'
  obtain⟨r2,hs2',rfl⟩: ∃r2,f x (dat i)=some r2/\r=(r2.1.isNone,r2):=by
   unfold wk at hy
   cases M:f x (dat i)with
   |none=>simp only [M]at hy;cases hy
   |some s2=>simp only [M]at hy;exact⟨s2,rfl,by simpa using hy.symm⟩
  have hl2:=hown.1.1.2
  have hvl:=hvs.length
  have hyr:=run_yield (P:=E.P) (args:=vs.toArray) hl2 (by rw [hrec];simp [hps x,hvl])
  refine⟨_,_,_,_,hyr,roundIn_of_wpIn trivial ?_⟩
  have hown' :cF 0 la w2 S2 (mU (w.heap.size+1) rec .ready none::Oi i):=hown
  have:=hbody i x r2 hs2' (w.heap.size+1) rec w2 S2 (fun k=> ∃f∈mU (w.heap.size+1) rec .ready none::Oi i,f.fp k)
   {tmps:=(ps.zip vs).foldl (fun t (p:Nat×Value)=>t.setIfInBounds p.1 p.2) a.tmps,defers:=[]} w2 S2
   ⟨ez.refl _ _ _,hs2,jC hown' fun f M k hk=> .inr ⟨f,M,hk⟩,uN ps (args x) vs ⟨a.tmps,[]⟩ G (hps x) hvs hpn ⟨st.facts.size,rfl,fun j t h=>t.mono hle (st.facts.at_ j t h)⟩⟩
  rw [hrec]
  rw [hrec]at this
  rw [tp]
  refine wpIn_mono this ?_
  intro e a3 w3 hp
  cases e with
  |normal=>
   obtain⟨w4,hb4,hp4⟩:=hp
   refine⟨w4,hb4,wpIn_mono hp4 ?_⟩
   have hR: ∀en w',D3 ⟨E.P,⟨E.N.n,[]⟩,fun k=> ∃f∈mU (w.heap.size+1) rec .ready none::Oi i,f.fp k,w2,S2,some (w.heap.size+1)⟩ (w.heap.size+1) rec Oi dat jc r2 en w' ->
     ∃e' S',en= .returned (.bool r2.1.isNone)/\(∃i',dat i' =r2.2/\e' =qn S (mU (w.heap.size+1) rec (E9 r2.1) (r2.1.map jc)::Oi i'))/\ez (qn S (mU (w.heap.size+1) rec .ready none::Oi i)).fp w2 S2 w' S' /\gc w' S' /\e'.p w' S' /\ ∀k,e'.fp k->(qn S (mU (w.heap.size+1) rec .ready none::Oi i)).fp k\/w2.heap.size<=k:=by
    rintro en w' ⟨i',S',Y,H,h3,h4,h5⟩
    exact⟨_,S',Y,⟨i',H,rfl⟩,h3,h4,⟨SH.le_trans hle h3.keep,h5.weak⟩,fun k ⟨f,M,hk⟩=>((cF.mem h5 f M).2 k hk).symm⟩
   rw [hrec]at hR
   intro e5 a5 w5 hp5
   cases e5<;>simp only [roundPost]at hp5 ⊢
   case normal=>obtain⟨v5,w6,Y,H⟩:=hp5;exact⟨v5,w6,Y,hR _ _ H⟩
   case ret=>obtain⟨v5,w6,Y,H⟩:=hp5;exact⟨v5,w6,Y,hR _ _ H⟩
   case exit=>obtain⟨v5,w6,Y,H⟩:=hp5;exact⟨v5,w6,Y,hR _ _ H⟩
   case goto=>obtain⟨v5,w6,Y,H⟩:=hp5;exact⟨v5,w6,Y,hR _ _ H⟩
  |_=>exact hp
 have hrecE:W1.heap[w.heap.size+1]? =some (.loop {rec with state:= .ready,pending:=none}):=by rw [hL1,hrec]
 have he0:(qn S (mU (w.heap.size+1) rec .ready none::Oi i0)).p W1 S:=⟨SH.le_refl _,⟨⟨y3,hrecE⟩,fun _ _=> .inl (ky _)⟩,fun f M k hk hfk=>by have:=hlt f M k hfk;have hk' :k=w.heap.size+1:=hk;omega,hoi1.weak⟩
 have hap0: ∀k,(qn S (mU (w.heap.size+1) rec .ready none::Oi i0)).fp k-> ¬fp k:=by
  rintro k ⟨f,M,hk⟩ hfk
  rcases eV.1 M with rfl|M
  ·have:=hfp k hfk;have hk' :k=w.heap.size+1:=hk;omega
  ·exact hap f M k hfk hk
 refine(hcall la W1 S hext (fun _ _ h=>h) y2 _ (wk f) (none,dat i0) R hit _ _ hyld _ ⟨i0,rfl,rfl⟩ he0 hap0).mono ?_
 rintro en w2 ⟨e',S2,j,⟨vr,rfl⟩,⟨i',hi',rfl⟩,hx2,hs2,⟨hle2,hown2⟩,hob,hnew,hapo⟩
 have hl2:=hown2.1.1.2
 have hnb: ∀k,(zX w.heap.size).fp k-> ¬((qn S (mU (w.heap.size+1) rec .ready none::Oi i0)).fp k\/fp k):=by
  rintro k hk h
  have hk' :k=w.heap.size:=hk
  subst hk'
  rcases h with⟨f,M,hfk⟩|h
  ·rcases eV.1 M with rfl|M
   ·have hk' :w.heap.size=w.heap.size+1:=hfk;omega
   ·have:=hlt f M _ hfk;omega
  ·have:=hfp _ h;omega
 have hBin: ∀k,((qn S (mU (w.heap.size+1) rec .ready none::Oi i0)).fp k\/fp k)->E.w0.heap.size<=k\/E.B k:=by
  rintro k (⟨f,M,hk⟩|h)
  ·rcases eV.1 M with rfl|M
   ·left;have hk' :k=w.heap.size+1:=hk;have:E.w0.heap.size<=w.heap.size:=hbl;omega
   ·exact(cF.mem hoi f M).2 k hk
  ·exact hbase k h
 have hBn: ∀k,((qn S (mU (w.heap.size+1) rec (E9 R.1.1) (R.1.1.map jc)::Oi i')).fp k\/qP (Ob R.2 j) k)->E.base<=k\/E.B k:=fun k hk=>(hnew k hk).elim (hBin k) (fun h=> .inl (by have Y:E.base<=w.heap.size:=hbl;have H:W1.heap.size<=k:=h;omega))
 have hb2:cF E.base E.B w2 S2 (mU (w.heap.size+1) rec (E9 R.1.1) (R.1.1.map jc)::(Ob R.2 j++Oi i')):=by
  obtain⟨q1,q2,q3⟩:=hown2
  refine cF.cons ⟨q1.1,fun k hk=>hBn k (.inl ⟨_,k5 ..,hk⟩)⟩ (fun f M=>?_) (rP (jC hob fun f M k hk=>hBn k (.inr ⟨f,M,hk⟩)) (jC q3 fun f M k hk=>hBn k (.inl ⟨f,nf _ M,hk⟩)) fun e he f M k hek hfk=>hapo k ⟨f,nf _ M,hfk⟩ ⟨e,he,hek⟩)
  rcases te.1 M with M|M
  ·exact fun k hk hfk=>hapo k ⟨_,k5 ..,hk⟩ ⟨f,M,hfk⟩
  ·exact q2 f M
 have hend:E9 R.1.1≠ .busy:=by unfold E9;split<;>simp
 obtain⟨z1,z2,z3⟩:=rq (st' := .exhausted) (pd' :=R.1.1.map jc) hb2 hs2
 have hdf:(zX w.heap.size).p W1 S:=⟨x3,hK1⟩
 have Il:(zX w.heap.size).p w2 S2:=(zX w.heap.size).kept hdf hx2 hnb
 have hd3:=(zX w.heap.size).kept Il z1 (fun k hk hkl=>by have Y:k=w.heap.size:=hk;have H:k=w.heap.size+1:=hkl;omega)
 have stE:St ⟨E.P,⟨E.N.n,sW w.heap.size::E.N.ds⟩,E.B,E.w0,E.S0,E.r⟩ (zX w.heap.size::(Ob R.2 j++Oi i')) G {a with defers:=[sW w.heap.size]++a.defers} (w2.putObj (w.heap.size+1) (.loop {rec with state:= .exhausted,pending:=R.1.1.map jc})) S2:=by
  refine⟨((st.ext.step0 hext).step hx2 hBin).step z1 (fun c hc=>z3.1.2 c hc),z2,?_,?_⟩
  ·refine cF.cons ⟨hd3,fun k hk=> .inl (by have Y:k=w.heap.size:=hk;rw [Y];exact hbl)⟩ (fun f M k hk hfk=>?_) z3.2.2
   have Y:k=w.heap.size:=hk
   have H:((qn S (mU (w.heap.size+1) rec (E9 R.1.1) (R.1.1.map jc)::Oi i')).fp k\/qP (Ob R.2 j) k):=by
    rcases te.1 M with M|M
    ·exact .inr ⟨f,M,hfk⟩
    ·exact .inl ⟨f,nf _ M,hfk⟩
   rcases hnew k H with h|h
   ·exact hnb k hk h
   ·omega
  ·refine⟨st.facts.size,?_,fun j t hj=>t.mono (SH.le_trans (SH.le_refl S) hle2) (st.facts.at_ j t hj)⟩
   show sW w.heap.size::a.defers=_
   rw [st.facts.defers]
 obtain⟨k1,k2⟩:=k i' j hi' w.heap.size
 refine⟨_,_,run_endLoop hl2 hend,?_⟩
 cases hR1:R.1.1 with
 |none=>
  rw [hR1]at stE
  exact k1 hR1 _ _ S2 stE
 |some q=>
  rw [hR1]at stE
  have:=k2 q hR1 _ _ S2 stE
  show(jc q).wpIn (fw none) 0 E.P Q _ _
  have hE:fw (⟨E.P,⟨E.N.n,sW w.heap.size::E.N.ds⟩,E.B,E.w0,E.S0,E.r⟩:En).r=fw none:=hfw
  rw [hE]at this
  exact this
end

def FO(l:List (Option Nat×Nat)):OI:={h:=fun n=>l.getD n (none,0)}
def gm(P:Program){A tD ρ:Type}(args:A->List Ty)(Ob:tD->OI->List OE)(res:ρ->Ty)(f:tD->A->Option (ρ×tD)):Ty where
 p:=fun S v=> ∀x y R,f x y=some R-> ∃fid fst cap,v= .func (.func fid) fst cap/\ah P fid=true/\ ∀i w S' vs,kT S S' ->gc w S' ->pm S' (args y) vs->cF 0 la w S' (Ob x i)->
  Calls P fid (fst++vs.toArray++cap) w fun en w' => ∃j v S'',en= .returned v/\(res R.1).p S'' v/\ez (qP (Ob x i)) w S' w' S'' /\gc w' S'' /\cF 0 la w' S'' (Ob R.2 j)/\ ∀k,qP (Ob R.2 j) k->qP (Ob x i) k\/w.heap.size<=k
 mono:=fun h k x y R M=>by
  obtain⟨fid,fst,cap,e,hc,hs⟩:=k x y R M
  exact⟨fid,fst,cap,e,hc,fun i w S' vs hle=>hs i w S' vs (SH.le_trans h hle)⟩
variable{A ρ:Type}{res:ρ->Ty}
def Bf{args:A->List Ty}:(gm P args Ob res (fun _ _=>none)).p S v:=fun _ _ _ h=>by cases h
section
section
variable{ty:TypeId}
def lQ{args:A->List Ty}{f:tD->A->Option (ρ×tD)}{fid:FuncId}(hc:ah E.P fid=true)(hp:aD E.N G p (tV (aq b 0)))(hs: ∀x y R,f x y=some R-> ∀i,df E.P fid (tV (aq b 0)::args y) (Ob x i) (fun _:OI=>res R.1) (fun j=>Ob R.2 j)):
  bJ E O G ⟨dst,.makeFunc (.func fid) #[p] #[],ty,pos,after,g⟩ (gm E.P args Ob res f):= .of_pure fun a w S _ _ M=>by
 have Y:a.eval p=aq b 0:=hp S a M
 refine⟨.func (.func fid) #[aq b 0] #[],by simp [execOp,Instr.makeFunc,Y],fun x y R hR=>⟨fid,#[aq b 0],#[],rfl,hc,fun i w' S' vs _ hsat hv ho=>?_⟩⟩
 have:=hs x y R hR i w' S' (aq b 0::vs) hsat ⟨rfl,hv⟩ ho
 rw [show(#[aq b 0]++vs.toArray++ #[]:Array Value)=(aq b 0::vs).toArray from by simp]
 exact this
end
def xj{args:A->List Ty}{f:tD->A->Option (ρ×tD)}{x:tD}{y:A}{R:ρ×tD}{i:OI}{ty:TypeId}{fo:Operand}{xs:List Operand}(Or:List OE)(hO:O=Ob x i++Or)(M:aD E.N G fo (gm E.P args Ob res f))(hR:f x y=some R)(I:ew E.N G xs (args y))(hpost: ∀j,Ob R.2 j++Or=post j):
  EffOK E O G ⟨some d,.call ⟨.value fo,xs.toArray,ats⟩,ty,pos,after,g⟩ post (fun _=>res R.1):=fun a w S hsat ho hF V=>by
 subst hO
 obtain rfl:(fun j=>Ob R.2 j++Or)=post:=funext hpost
 obtain⟨fid,fst,cap,e,hc,hs⟩:=M S a hF x y R hR
 have hr:(execOp a.eval ⟨some d,.call ⟨.value fo,xs.toArray,ats⟩,ty,pos,after,g⟩).run E.P w= .ok (.enter fid (fst++(xs.map a.eval).toArray++cap)) w:=by
  simp [execOp,resolve,e,Deferred.ofValue,invoke,dN hc]
 refine⟨fun c h=>(by cases h),?_⟩
 rw [hr]
 exact(hs i w S _ (SH.le_refl _) hsat (I.tys hF) (jB ho).1.weak).mono fun en w' ⟨j,v,S',he,hv,Y,H,h3,h4⟩=>⟨_,he,v,S',j,rfl,Y.more fun b ⟨f,M,V⟩=>⟨f,AZ _ M,V⟩,H,cF.turn ho V Y h3 h4,hv⟩
def ks{t:Ty}{Ob:OI->List OE}{i:OI}(h:df P f ts O1 (fun _:OI=>t) (fun _=>Ob i)):df P f ts O1 (fun _:OI=>t) Ob:=fun w S vs hs hv ho=>
 (h w S vs hs hv ho).mono fun _ _ ⟨_,v,S',Y,H,h3,h4,h5,h6⟩=>⟨i,v,S',Y,H,h3,h4,h5,h6⟩
section
variable{t:ι->Ty}{O2:ι->List OE}
def fZ{rvs:List ResultVar}(hr:fn.results=rvs.toArray)(Y:Nat.beq rvs.length 1=false)(h:BI P ⟨N,[]⟩ G rvs ts)(i:ι)(hO:O=O2 i)(D:t i=tT ts):
  AT ⟨P,⟨N,[]⟩,qP O1,w0,S0,none⟩ (bodyPost P fn (C9 ⟨P,⟨N,[]⟩,qP O1,w0,S0,none⟩ O1 t O2)) .ret O G:=fun a w S st=>by
 obtain⟨vs,k1,k2,k3⟩:=h.run st.sat st.facts
 have hne: ¬vs.length=1:=by rw [k3];intro e;rw [e]at Y;cases Y
 refine⟨st.facts.defers,.tuple vs.toArray,?_,xi st rfl i hO (by rw [D];exact⟨vs,rfl,k2⟩)⟩
 have e1:(fn.results.mapM (qJ a.tmps)).run P w= .ok vs.toArray w:=by
  rw [hr,List.mapM_toArray,Sem.run_map,k1]
  rfl
 have e3:results fn a.tmps=((fn.results.mapM (qJ a.tmps))>>=fun vs=>pure (if h:vs.size=1 then vs[0]else .tuple vs)):=rfl
 rw [e3,ow,e1]
 simp [Result.andThen,hne]
def Dy{k:Nat}{x:α}(hr:fn.results= #[.cell k aT])(ti:TI P aT sz bytes agg z)(hsz:r.sz=sz)(hag:r.agg=agg)(hk:bu G k=some (bp r x))(i:ι)(hO:O=O2 i)(D:t i=X r x):
  AT ⟨P,⟨N,[]⟩,qP O1,w0,S0,none⟩ (bodyPost P fn (C9 ⟨P,⟨N,[]⟩,qP O1,w0,S0,none⟩ O1 t O2)) .ret O G:=fun a w S st=>by
 obtain⟨b,off,c,U,fr,Y,H,h3⟩:=st.facts.at_ k _ hk
 obtain⟨c',h4,h5⟩:=st.sat.part H (r.len h3)
 rw [<-h5]at h3
 refine⟨st.facts.defers,r.val ((c'.toList.drop off).take r.sz),?_,xi st rfl i hO (by rw [D];exact⟨_,rfl,h3⟩)⟩
 have hl:=fa ti h4 hsz hag h3
 have h1' :a.tmps[k]?.getD undef=Value.pointer (some ⟨b,off,none⟩):=by simpa [wB] using Y
 simp [results,hr,h1',asAddr,hl]
end
def Iu(u:Value)(t:Ty):Ty where
 p:=fun S v=>v=u/\t.p S u
 mono:=fun h ⟨e,k⟩=>⟨e,t.mono h k⟩
def St.settleP{k:Nat}{x:α}(h:St E (bx r aT b x::O) G a w S)(hk:bu G k=some (tV (aq b 0))): ∃S',St E O ((k,Iu (aq b 0) (bp r x))::G) a w S' :=by
 obtain⟨S',Y⟩:=h.settleB hk
 have hv:a.tmps.getD k undef=aq b 0:=h.facts.at_ k _ hk
 refine⟨S',⟨Y.ext,Y.sat,Y.own,⟨Y.facts.size,Y.facts.defers,fun j t hj=>?_⟩⟩⟩
 have hp:(bp r x).p S' (a.tmps.getD k undef):=Y.facts.at_ k _ (by simp [bu])
 by_cases V:Nat.beq k j=true
 ·have e:=kB V
  subst e
  simp only [bu,Nat.beq_refl,cond_true,Option.some.injEq]at hj
  subst hj
  exact⟨hv,by rw [<-hv];exact hp⟩
 ·rw [q8]at V
  have:bu ((k,bp r x)::G) j=some t:=by
   simp only [bu,V,cond_false]at hj ⊢;exact hj
  exact Y.facts.at_ j t this
def q4{x:α}{e:Exit}(k:Nat)(hk:bu G k=some (tV (aq b 0)))(h:AT E Q e O ((k,Iu (aq b 0) (bp r x))::G)):AT E Q e (bx r aT b x::O) G:=
 fun a w _ st=>let⟨S',st'⟩:=st.settleP hk;h a w S' st'
def EW{hs:HL}{x:α}(h:cF base B w S (bx (rH r hs) aT b x::O)):cF base B w S (bx r aT b x::O):=by
 obtain⟨⟨⟨Y,c,H,h3⟩,h4⟩,h5,h6⟩:=h
 exact⟨⟨⟨Y,c,H,h3.1⟩,h4⟩,h5,h6⟩
def sK{hs:HL}{x:α}{e:Exit}(h:AT E Q e (bx r aT b x::O) G):AT E Q e (bx (rH r hs) aT b x::O) G:=fun a w S st=>h a w S (st.own_map EW)
def sr{N:Fr}{G:gJ}{k:Nat}{u:Value}{t:Ty}(ti:TI P aT 1 bytes false z)(hk:bu G k=some (bp rV u))(hj:bu G j=some (Iu u t)):AK P N G (.cell k aT) t:=fun a w S hs M=>by
 obtain⟨v,Y,H⟩:=bb (r:=rV) ti rfl rfl hk a w S hs M
 have h3:=(mA.1 H).1
 subst h3
 obtain⟨_,h4⟩:=M.at_ j _ hj
 exact⟨v,Y,h4⟩
end
variable{et kt:TypeId}{kv:κ->Value}{os:List (Option Nat×Nat)}
section
variable [DecidableEq κ]{k:κ}{i v:Operand}{dst:Option Nat}{ty:TypeId}
def kW{γ:β->Ty}{y:β}(hm:E.P.underlying t=some (.map kt et))(hk:u7 E.P kt kv)(I:aD E.N G x (tV (k4 b)))(hi:wp E.N G i (kv k))(hv:aD E.N G v (γ y))
  (h: ∀os',RG E ops Q rest (lR (sU γ) kv b none os' (ge m k y)::O) G):
  RG E ops Q (⟨none,.insert t x i v,ty,pos,after,none⟩::rest) (lR (sU γ) kv b none os m::O) G:= .of rfl fun a w S st=>by
 have Y:a.eval x=k4 b:=I S a st.facts
 have H:a.eval i=kv k:=hi S a st.facts
 have h3:(γ y).p S (a.eval v):=hv S a st.facts
 obtain⟨⟨hp,hfp⟩,hap,hO⟩:=st.own
 obtain⟨hno,hnb,es,clock,e3,e4,hst⟩:=hp
 obtain⟨q,hq,hdk,hinj⟩:=hk
 obtain⟨os1,p1,p2,_⟩:=lA hdk hinj (k:=k) 0 e4
 have hnb1: ∀o∈os1,o.1≠some b:=fun o ho=>by
  rcases p1 o ho with h|h
  ·exact hnb o h
  ·rw [h];exact fun e=>by cases e
 obtain⟨w',os',r,x1,x2,x3,x4⟩:=vR (hb:=sU γ) (E:=E) (y:=y) (o:=(none,0)) (val:=a.eval v) st.sat hm ⟨q,hq,hdk,hinj⟩ ⟨hno,hnb1,es,clock,e3,p2,hst⟩ ⟨rfl,h3⟩ (fun e=>by cases e) (fun _ _ _ e=>by cases e)
 have hrun:(execOp a.eval ⟨none,.insert t x i v,ty,pos,after,none⟩).run E.P w= .ok .skip w' :=by simp [execOp,Y,H,r]
 refine⟨fun c h=>(by cases h),?_⟩
 rw [hrun]
 have hfp' : ∀j,(lR (sU γ) kv b none os' (ge m k y)).fp j->(lR (sU γ) kv b none os m).fp j:=fun j hj=>by
  rcases x4 j hj with(h|⟨o,ho,e⟩)|e
  ·exact .inl h
  ·rcases p1 o ho with h|h
   ·exact .inr ⟨o,h,e⟩
   ·rw [h]at e;cases e
  ·cases e
 exact h os' _ _ S ⟨st.ext.step x1 (fun c hc=>hfp c (.inl hc)),x2,⟨⟨x3,fun j hj=>hfp j (hfp' j hj)⟩,fun f M j hj=>hap f M j (hfp' j hj),hO.ext x1 fun f M j hj hjb=>hap f M j (.inl hjb) hj⟩,st.facts⟩
end
def Iy(b:Bool):Option Unit:=if b then some ()else none
def CI{b:Bool}{u:Unit}(h:Iy b=some u):b=true:=by
 unfold Iy at h
 split at h
 ·assumption
 ·cases h

def wg{κ β:Type}(γ:β->Ty)(kv:κ->Value)(S:SH):List MapEntry->List (κ×β)->Prop
 |[],[]=>True
 |e::es,q::m=>e.key=kv q.1/\(γ q.2).p S e.val/\(∀p∈m,p.1≠q.1)/\wg γ kv S es m
 |_,_=>False
def qW{κ β:Type}{γ:β->Ty}{kv:κ->Value}{S S' :SH}(h:kT S S'): ∀{es:List MapEntry} {m:List (κ×β)},wg γ kv S es m->wg γ kv S' es m
 |[],[],_=>trivial
 |_::_,q::_,⟨Y,H,h3,h4⟩=>⟨Y,(γ q.2).mono h H,h3,qW h h4⟩
def C8{κ β:Type} [DecidableEq κ]{γ:β->Ty}{kv:κ->Value}{w:World}{S:SH}: ∀{es:List MapEntry} {os:List (Option Nat×Nat)} {m:List (κ×β)},ph (sU γ) kv w S none es os m->wg γ kv S es m
 |[],[],[],_=>trivial
 |_::_,_::_,_::_,⟨Y,H,_,h4,h5⟩=>⟨Y,by rw [ei (by simp)]at H;exact H.2,h4,C8 h5⟩
def Dt{κ β:Type} [DecidableEq κ]{γ:β->Ty}{kv:κ->Value}{w:World}{S:SH}: ∀{es:List MapEntry} {m:List (κ×β)},wg γ kv S es m->ph (sU γ) kv w S none es (m.map fun _=>(none,0)) m
 |[],[],_=>trivial
 |_::_,_::_,⟨Y,H,h3,h4⟩=>⟨Y,by rw [ei (by simp)];exact⟨rfl,H⟩,fun _ _ _ h=>(by cases h),h3,Dt h4⟩
def B5{κ β:Type}(γ:β->Ty)(kv:κ->Value)(m:List (κ×β)):Ty where
 p:=fun S v=> ∃b es clock,v=k4 b/\S b=some (.map es clock)/\wg γ kv S es.toList m
 mono:=fun h ⟨b,es,cl,e,Y,H⟩=>by
  obtain⟨o',h3,h4⟩:=h b _ Y
  have h5:o' = .map es cl:=h4
  subst h5
  exact⟨b,es,cl,e,h3,qW h H⟩
section
variable [DecidableEq κ]{k:κ}{i:Operand}{γ:β->Ty}{dst:Option Nat}{ty:TypeId}
def St.settleMp(h:St E (lR (sU γ) kv b none os m::O) G a w S)(hk:bu G j=some (tV (k4 b))): ∃S',St E O ((j,B5 γ kv m)::G) a w S' :=by
 obtain⟨⟨hn,_,es,clock,h3,h4,_⟩,_⟩:=h.own.1
 obtain⟨h8,hle,_,_⟩:=oF h (.inl rfl) h3 (mX _) hn
 have hv:a.tmps.getD j undef=k4 b:=h.facts.at_ j _ hk
 exact⟨_,h8.cons ⟨b,es,clock,hv,by simp [SH.set],qW hle (C8 h4)⟩⟩
def y5{e:Exit}(j:Nat)(hk:bu G j=some (tV (k4 b)))(h:AT E Q e O ((j,B5 γ kv m)::G)):AT E Q e (lR (sU γ) kv b none os m::O) G:=
 fun a w _ st=>let⟨S',st'⟩:=st.settleMp hk;h a w S' st'
end
def GK(P:Program){α β:Type}(args:α->List Ty)(res:β->Ty)(f:α->Option β):Ty where
 p:=fun S v=> ∀x y,f x=some y-> ∃fid cap,v= .func (.func fid) #[] cap/\ah P fid=true/\ ∀w S' vs,kT S S' ->gc w S' ->pm S' (args x) vs->
  Calls P fid (vs.toArray++cap) w fun e w' => ∃v S'',e= .returned v/\ez la w S' w' S'' /\gc w' S'' /\(res y).p S'' v
 mono:=fun h k x y hxy=>by
  obtain⟨f,cap,e,hc,k⟩:=k x y hxy
  exact⟨f,cap,e,hc,fun w S' vs hle=>k w S' vs (SH.le_trans h hle)⟩
def FI{N:Fr}{res:β->Ty}{f:α->Option β}(h:aD N G x (jW P args res f)):aD N G x (GK P args res f):=fun S a M u y hxy=>by
 obtain⟨fid,cap,e,hc,k⟩:=h S a M
 exact⟨fid,cap,e,hc,fun w S' vs=>k u y hxy w S' vs⟩
def D0{res:β->Ty}:(GK P args res (fun _:α=>(none:Option β))).p S v:=fun _ _ h=>by cases h
def Bt{ty:TypeId}{res:β->Ty}{f:α->Option β}{fo:Operand}{x:α}{y:β}{xs:List Operand}(hfo:aD E.N G fo (GK E.P args res f))(h:f x=some y)(I:ew E.N G xs (args x)):
  bJ E O G ⟨dst,.call ⟨.value fo,xs.toArray,ats⟩,ty,pos,after,g⟩ (res y):=fun a w S hS _ hF=>by
 obtain⟨fid,cap,e,hc,hs⟩:=hfo S a hF x y h
 have hr:(execOp a.eval ⟨dst,.call ⟨.value fo,xs.toArray,ats⟩,ty,pos,after,g⟩).run E.P w= .ok (.enter fid ((xs.map a.eval).toArray++cap)) w:=by
  simp [execOp,resolve,e,Deferred.ofValue,invoke,dN hc]
 refine⟨fun c h=>(by cases h),?_⟩
 rw [hr]
 exact(hs w S _ (SH.le_refl _) hS (I.tys hF)).mono fun e w' ⟨v,S',he,Y,H,h3⟩=>⟨v,he,v,S',rfl,Y,H,h3⟩

section
variable{ty:TypeId}
def Bq{s u:BH}{hi:Operand}{j:Int}(D:E.P.underlying t=some .string)(I:aD E.N G x (X rS s))(hh:aD E.N G hi (X (rI k) j))(hy:cW s 0 j=some u):
  bJ E O G ⟨dst,.slice t x none (some hi) none,ty,pos,after,g⟩ (X rS u):= .of_pure fun a w S _ _ M=>by
 have Y:a.eval x= .string ⟨s.toArray⟩:=sd.1 (I S a M)
 have H:a.eval hi= .int k j:=dG.1 (hh S a M)
 obtain⟨l,m,e1,e2,e3,e4,e5⟩:=dH hy
 have el:l=0:=by omega
 subst el e2 e5
 have hsz:(ByteArray.mk s.toArray).size=s.length:=by simp [ByteArray.size]
 have h3:=run_slice_string_h (P:=E.P) w t ⟨s.toArray⟩ D k (m:Int) (by omega) (by rw [hsz];omega)
 refine⟨_,by simp only [execOp,Y,H,Option.map_none,Option.map_some,ow,run_sliceAt_string w t _ _ _ _ D,h3,pp,Sem.run_pure];rfl,sd.2 ?_⟩
 congr 1
 apply ByteArray.ext
 simp
end
open Go.MapKept (Stamped)
section
variable [DecidableEq κ]
end
section
variable [DecidableEq κ]{r:Nat}{left:List κ}{cur:Option κ}{k:κ}{i v:Operand}{dst:Option Nat}{ty:TypeId}
end
open Go.RowKit

section
variable{ty:TypeId}
def Bs{ix:Operand}{i:Int}(D:E.P.underlying t=some (.array n e))(ti:TI E.P e sz bytes agg z)(hsz:r.sz=sz)(hag:r.agg=agg)(I:aD E.N G x (X (kE r n) xs))(hi:aD E.N G ix (X (rI k) i))(hy:eG xs i=some y):bJ E O G ⟨dst,.index t x ix,ty,pos,after,g⟩ (X r y):= .of_pure fun a w S _ _ M=>by
 obtain⟨cs,Y,H,h3⟩:=I S a M
 have h1' :a.eval x= .agg cs.toArray:=Y
 have h4:a.eval ix= .int k i:=dG.1 (hi S a M)
 obtain⟨g1,g2⟩:=fy hy
 have hlt:i.toNat<xs.length:=(mH.1 g2).1
 have Z:=oJ h3 g2
 have hin:0<=i/\i<(n:Int):=⟨g1,by omega⟩
 refine⟨r.val ((cs.drop (i.toNat*r.sz)).take r.sz),?_,_,rfl,Z⟩
 have hp:(part e cs.toArray (i.toNat*sz)).run E.P w= .ok (r.val ((cs.drop (i.toNat*r.sz)).take r.sz)) w:=by
  subst hsz
  subst hag
  have hl:=r.len Z
  unfold part
  simp only [ow,ti.isAgg,pp]
  cases hA:r.agg with
  |true=>
   simp [ti.sizeOf,Rp.val,hA]
  |false=>
   have Y:=r.sc hA
   rw [Y,Nat.mul_one]at hl ⊢
   cases hd:cs.drop i.toNat with
   |nil=>rw [hd]at hl;simp at hl
   |cons v l=>
    have hv:cs[i.toNat]? =some v:=by
     have:=qg (xs:=cs) (i:=i.toNat) (j:=0)
     rw [hd]at this
     simpa using this.symm
    simp [Rp.val,hA,hv]
 simp [execOp,h1',h4,Instr.index,asIntOf,gy D,hin,ti.sizeOf,hp]

end

abbrev NG:=Nat->(Option Nat×Nat)×(Nat->Option Nat×Nat)
inductive NPl where
 |o
 |i (k:Nat)
 |l (k j:Nat)
section
def Il(q:Nat->Option Nat×Nat)(zs:List (List α)):List Value:=zs.mapIdx fun j z=>aM (q j).1 (q j).2 z.length
def hd1(prj:β->List (List α))(g:NG)(x:List β):List Value:=x.mapIdx fun k y=>aM (g k).1.1 (g k).1.2 (prj y).length
def nsB(prj:β->List (List α))(l:Option Nat)(g:NG)(x:List β)(h:Option (Nat×Nat)):NPl->Option Nat
 | .o=>l
 | .i k=>(x[k]?).bind fun _=>(g k).1.1
 | .l k j=>if h=some (k,j)then none else((x[k]?).bind fun y=>(prj y)[j]?).bind fun _=>((g k).2 j).1
structure nstP(prj:β->List (List α))(r:Rp α)(T1 T2 T3:TypeId)(l:Option Nat)(cap n:Nat)(g:NG)(x:List β)(h:Option (Nat×Nat))(w:World)(S:SH):Prop where
 len:x.length=n
 out:tu false rV T1 l cap (hd1 prj g x) w S
 inn: ∀k y,x[k]? =some y->tu false rV T2 (g k).1.1 (g k).1.2 (Il (g k).2 (prj y)) w S
 lvs: ∀k y j z,x[k]? =some y->(prj y)[j]? =some z->h≠some (k,j)->tu true r T3 ((g k).2 j).1 ((g k).2 j).2 z w S
 inj: ∀s t b,nsB prj l g x h s=some b->nsB prj l g x h t=some b->s=t
variable{prj:β->List (List α)}{T1 T2 T3:TypeId}{l:Option Nat}{g:NG}{x:List β}{h:Option (Nat×Nat)}
end
section
variable{prj:β->List (List α)}{T1 T2 T3:TypeId}{l:Option Nat}{g:NG}{x:List β}{h:Option (Nat×Nat)}
variable{ty:TypeId}{gd:Option (Nat×Bool)}
open Classical in
noncomputable def settleS(w:World)(S:SH)(P:Nat->Prop):SH:=fun b=>if P b then w.heap[b]? else S b
def g0(hs:List (Option Nat×Nat)):NG:=fun k=>(hs.getD k (none,0),fun _=>(none,0))
def tsB(l:Option Nat)(q:Nat->Option Nat×Nat)(zs:List (List α))(h:Option Nat):Option Nat->Option Nat
 |none=>l
 |some j=>if h=some j then none else(zs[j]?).bind fun _=>(q j).1
structure rowP(r:Rp α)(T2 T3:TypeId)(l:Option Nat)(cap n:Nat)(q:Nat->Option Nat×Nat)(zs:List (List α))(h:Option Nat)(w:World)(S:SH):Prop where
 len:zs.length=n
 inn:tu false rV T2 l cap (Il q zs) w S
 lvs: ∀j z,zs[j]? =some z->h≠some j->tu true r T3 (q j).1 (q j).2 z w S
 inj: ∀s t b,tsB l q zs h s=some b->tsB l q zs h t=some b->s=t
variable{q:Nat->Option Nat×Nat}{zs:List (List α)}{k:Option Nat}
end

def vE(es:List Bool)(done:Array Bool):List Nat:=(List.range es.length).filter fun k=>(es[k]?).getD false&&done.getD k false
def Eb(es:List Bool)(i:Nat)(s:List Nat):List Nat:=(List.range es.length).filter fun k=>Nat.beq k i||s.contains k
def Gr:List Nat->List Nat->Bool
 |[],[]=>true
 |a::s,b::t=>Nat.beq a b&&Gr s t
 |_,_=>false
def zS: ∀{s t:List Nat},Gr s t=true->s=t
 |[],[],_=>rfl
 |a::s,b::t,h=>by
  simp only [Gr,kA]at h
  rw [kB h.1,zS h.2]
 |[],_::_,h=>by cases h
 |_::_,[],h=>by cases h
def B6:List (List Nat×((Nat->OI)->List OE))->List Nat->(Nat->OI)->List OE
 |[],_,_=>[]
 |p::r,s,σ=>bif Gr p.1 s then p.2 σ else B6 r s σ
def rt{k:Nat}:k∈vE es done↔es[k]? =some true/\done.getD k false=true:=by
 unfold vE
 rw [List.mem_filter,List.mem_range,kA]
 constructor
 ·rintro⟨Y,H,h3⟩
  refine⟨?_,h3⟩
  rw [lX Y]at H ⊢
  simpa using H
 ·rintro⟨Y,H⟩
  exact⟨(mH.1 Y).1,by rw [Y];rfl,H⟩
def BB{i:Nat}(h:es[i]? =some false):vE es (done.setIfInBounds i true)=vE es done:=by
 unfold vE
 refine List.filter_congr fun k hk=>?_
 by_cases hik:i=k
 ·subst hik;rw [h];rfl
 ·rw [rY false hik]
def ER{i:Nat}(h:es[i]? =some true)(hs:i<done.size):vE es (done.setIfInBounds i true)=Eb es i (vE es done):=by
 unfold Eb
 conv=>lhs;unfold vE
 refine List.filter_congr fun k hk=>?_
 by_cases hik:i=k
 ·subst hik;simp [h,hs]
 ·rw [rY false hik]
  have V:Nat.beq k i=false:=by
   cases V:Nat.beq k i with
   |false=>rfl
   |true=>exact absurd (kB V).symm hik
  rw [V,tI,Bool.eq_iff_iff,B9,rt,kA]
  constructor
  ·rintro⟨Y,H⟩
   refine⟨?_,H⟩
   cases he:es[k]? with
   |none=>rw [he]at Y;cases Y
   |some b=>rw [he]at Y;simpa using Y
  ·rintro⟨Y,H⟩
   exact⟨by rw [Y];rfl,H⟩
def vH:List Nat->List (List Nat)
 |[]=>[[]]
 |k::l=>(vH l).map (k:: ·)++vH l
def tt(es:List Bool):List Nat:=(List.range es.length).filter fun k=>(es[k]?).getD false
def pK(p:Nat->Bool): ∀l:List Nat,l.filter p∈vH l
 |[]=>qf.2 rfl
 |k::l=>by
  unfold vH
  rw [te]
  by_cases h:p k=true
  ·rw [List.filter_cons_of_pos h]
   exact .inl (List.mem_map.2 ⟨_,pK p l,rfl⟩)
  ·rw [List.filter_cons_of_neg h]
   exact .inr (pK p l)
def Dd(es:List Bool)(done:Array Bool):vE es done∈vH (tt es):=by
 have:vE es done=(tt es).filter fun k=>done.getD k false:=by
  unfold vE tt
  rw [List.filter_filter]
  refine List.filter_congr fun k _=>Bool.and_comm ..
 rw [this]
 exact pK _ _
def Iw(L:List Oper)(es:List Bool)(i:Nat)(s:List Nat):Bool:=
 s.contains i||(tt es).any fun k=>if s.contains k then iT L L.length k i||(tt es).any fun j=> !s.contains j&&iT L L.length k j else iT L L.length i k
def Ba(L:List Oper)(es:List Bool)(i:Nat)(aas:List (List Nat)):Bool:=(vH (tt es)).all fun s=>Iw L es i s||aas.any fun a=>Gr a s
def y4{α:Type}(p:α->Prop):List α->Prop
 |[]=>True
 |a::l=>p a/\y4 p l
def y4.mem{p:α->Prop}: ∀{l:List α},y4 p l-> ∀a∈l,p a
 |_::_,⟨h,_⟩,_,.head _=>h
 |_::_,⟨_,h⟩,_,.tail _ hm=>y4.mem h _ hm
abbrev GN:=List (List Nat×((Nat->OI)->List OE))
def DT(E:En)(G:gJ)(L:List Oper)(ts:List TS)(Ss:GN)(es0:List Bool):Nat->List Oper->List Bool->Prop
 |_,[],_=>True
 |i,o::rest,false::es=>(∃(needs:List NS) (t:TS) (aas:List (List Nat)),ts[i]? =some t/\pb G ts needs/\(needs.all fun n=>jd L o i (n.at fun _=>nh))=true/\cQ i o=true/\BC L es0 i t=true/\Ba L es0 i aas=true/\o.dst.isSome=true/\
   y4 (fun s=> ∀σ,bG E (B6 Ss s σ) L.toArray (o8 needs σ) o (t.at σ)) aas)/\DT E G L ts Ss es0 (i+1) rest es
 |i,o::rest,true::es=>(∃(needs:List NS) (t:TS) (aas:List (List Nat×List Nat)),ts[i]? =some t/\pb G ts needs/\(needs.all fun n=>jd L o i (n.at fun _=>nh))=true/\cQ i o=true/\BC L es0 i t=true/\Ba L es0 i (aas.map (·.1))=true/\(aas.all fun p=>Gr (Eb es0 i p.1) p.2)=true/\
   y4 (fun p:List Nat×List Nat=> ∀σ,jF E L.toArray (B6 Ss p.1 σ) (o8 needs σ) o (fun x=>B6 Ss p.2 (y7 σ i x)) (fun x=>t.at (y7 σ i x))) aas)/\DT E G L ts Ss es0 (i+1) rest es
 |_,_::_,[]=>False
def DT.get{ts:List TS}{Ss:GN}{es0:List Bool}: ∀(r:List Oper) (es:List Bool) (k:Nat),DT E G L ts Ss es0 k r es-> ∀(j:Nat) (o:Oper),r[j]? =some o->
    ∃e,es[j]? =some e/\ ∃(needs:List NS) (t:TS),ts[k+j]? =some t/\pb G ts needs/\(needs.all fun n=>jd L o (k+j) (n.at fun _=>nh))=true/\cQ (k+j) o=true/\BC L es0 (k+j) t=true/\
      (match e with
       |false=>o.dst.isSome=true/\ ∃aas,Ba L es0 (k+j) aas=true/\y4 (fun s=> ∀σ,bG E (B6 Ss s σ) L.toArray (o8 needs σ) o (t.at σ)) aas
       |true=> ∃aas:List (List Nat×List Nat),Ba L es0 (k+j) (aas.map (·.1))=true/\(aas.all fun p=>Gr (Eb es0 (k+j) p.1) p.2)=true/\y4 (fun p:List Nat×List Nat=> ∀σ,jF E L.toArray (B6 Ss p.1 σ) (o8 needs σ) o (fun x=>B6 Ss p.2 (y7 σ (k+j) x)) (fun x=>t.at (y7 σ (k+j) x))) aas):=by
  intro r
  induction r with
  |nil=>intro es k _ j o h;simp at h
  |cons p r ih=>
    intro es k h j o ho
    cases es with
    |nil=>exact h.elim
    |cons e es=>
      cases e with
      |false=>
        obtain⟨⟨needs,t,aas,g1,g2,g3,g4,g5,g6,g7,g8⟩,H⟩:=h
        cases j with
        |zero=>
          simp at ho;subst ho
          exact⟨false,rfl,needs,t,g1,g2,g3,g4,g5,g7,aas,g6,g8⟩
        |succ j=>
          obtain⟨e',g1,g2⟩:=ih es (k+1) H j o (by simpa using ho)
          refine⟨e',by simpa using g1,?_⟩
          rw [show k+1+j=k+(j+1)from by omega]at g2
          exact g2
      |true=>
        obtain⟨⟨needs,t,aas,g1,g2,g3,g4,g5,g6,g7,g8⟩,H⟩:=h
        cases j with
        |zero=>
          simp at ho;subst ho
          exact⟨true,rfl,needs,t,g1,g2,g3,g4,g5,aas,g6,g7,g8⟩
        |succ j=>
          obtain⟨e',g1,g2⟩:=ih es (k+1) H j o (by simpa using ho)
          refine⟨e',by simpa using g1,?_⟩
          rw [show k+1+j=k+(j+1)from by omega]at g2
          exact g2
structure Fp(E:En)(G:gJ)(l:List Oper)(ts:List TS)(Ss:GN)(es:List Bool)(done:Array Bool)(a:Act)(w:World)(S:SH)(σ:Nat->OI):Prop where
 ext:ez E.B E.w0 E.S0 w S
 sat:gc w S
 own:cF E.base E.B w S (B6 Ss (vE es done) σ)
 size:a.tmps.size=E.N.n
 defers:a.defers=E.N.ds
 dsz:done.size=l.length
 down: ∀j o,l[j]? =some o->done.getD j false=true-> ∀e∈o.after,Region.binds .any e=true->done.getD e.on false=true
 old: ∀k t,bu G k=some t->(∀j o,l[j]? =some o->done.getD j false=true->o.dst≠some k)->t.p S (a.tmps.getD k undef)
 new: ∀j o d p,l[j]? =some o->done.getD j false=true->o.dst=some d->ts[j]? =some p->(p.at σ).p S (a.tmps.getD d undef)
 deps: ∀j p,done.getD j false=true->ts[j]? =some p-> ∀k∈p.1,done.getD k false=true
section
variable{ts:List TS}{Ss:GN}
def Fp.need(h:Fp E G L ts Ss es done a w S σ){i:Nat}(hi:L[i]? =some o)(hun:done.getD i true=false)(hwait: ∀e∈o.after,Region.binds .any e=true->done.getD e.on false=true){needs:List NS}(Y:pb G ts needs)(H:(needs.all fun n=>jd L o i (n.at fun _=>nh))=true):db E.N S a (o8 needs σ):=by
 have hlt:i<done.size:=by rw [h.dsz];exact(mH.1 hi).1
 have hun' :done.getD i false=false:=by
  simp [hlt]at hun ⊢;exact hun
 refine⟨h.size,h.defers,?_⟩
 have key: ∀n∈needs,(n.ty σ).p S (a.tmps.getD n.slot undef):=by
  intro n hn
  have hs:=kz.1 H n hn
  have ho:=Y.mem n hn
  unfold jd NS.at at hs
  unfold E4 at ho
  cases hsrc:n.src with
  |some j=>
   rw [hsrc]at hs ho
   simp only [kA]at hs
   obtain⟨hs1,hs2⟩:=hs
   cases hj:L[j]? with
   |none=>rw [hj]at hs1;cases hs1
   |some p=>
    rw [hj]at hs1
    cases hd:p.dst with
    |none=>simp only [hd]at hs1;cases hs1
    |some d=>
     simp only [hd]at hs1
     have hd' :=kB hs1
     subst hd'
     have hdone:done.getD j false=true:=by
      unfold sO at hs2
      obtain⟨e,he0,V⟩:=q7.1 hs2
      have he:e∈o.after:=by simpa using he0
      simp only [kA]at V
      have:=hwait e he V.2
      rwa [kB V.1]at this
     have hm:=ho σ
     cases M:ts[j]? with
     |none=>rw [M]at hm;simp at hm
     |some f=>
      rw [M]at hm
      have e:f.at σ=n.ty σ:=by simpa using hm
      rw [<-e]
      exact h.new j p n.slot f hj hdone hd M
  |none=>
   rw [hsrc]at hs ho
   refine h.old _ _ (ho σ) fun j p hj hdone hd=>?_
   have:=kz.1 hs p (pq hj)
   simp only [hd,Nat.beq_refl,po,tI]at this
   unfold sO at this
   obtain⟨e,he0,V⟩:=q7.1 this
   have he:e∈p.after:=by simpa using he0
   simp only [kA]at V
   have h3:=h.down j p hj hdone e he V.2
   rw [kB V.1]at h3
   rw [h3]at hun'
   cases hun'
 clear Y H
 intro k t hk
 unfold o8 at hk
 induction needs with
 |nil=>simp [eM,bu]at hk
 |cons n needs ih=>
  simp only [wu]at hk
  unfold eM bu at hk
  by_cases V:Nat.beq n.slot k=true
  ·have hb' :Nat.beq (n.at σ).slot k=true:=V
   rw [hb']at hk
   have:=kB V
   subst this
   have h9:some (n.at σ).ty=some t:=by simpa using hk
   have e:n.ty σ=t:=my h9
   rw [<-e]
   exact key n (k5 ..)
  ·rw [q8]at V
   have hb' :Nat.beq (n.at σ).slot k=false:=V
   rw [hb']at hk
   exact ih (fun m hm=>key m (nf _ hm)) hk
def Fp.step{σ' :Nat->OI}(h:Fp E G L ts Ss es done a w S σ){i:Nat}{p0:TS}{C:Nat->Prop}(hi:L[i]? =some o)(hdN: ∀d,o.dst=some d->d<E.N.n)(hs2: ∀d,o.dst=some d-> ∀j p,L[j]? =some p->done.getD j false=true->p.dst=some d->i=j)(hwait: ∀e∈o.after,Region.binds .any e=true->done.getD e.on false=true)(D:ts[i]? =some p0)(hun:done.getD i true=false)(hdep: ∀k∈p0.1,k=i\/done.getD k false=true)(hext:ez C w S w' S')(hC: ∀b,C b->E.base<=b\/E.B b)(hsat:gc w' S')(hown:cF E.base E.B w' S' (B6 Ss (vE es (done.setIfInBounds i true)) σ'))(hσ: ∀k,k≠i->σ' k=σ k)(hv:(p0.at σ').p S' v):
  Fp E G L ts Ss es (done.setIfInBounds i true) (a.put o.dst v) w' S' σ' :=by
 have hlt:i<done.size:=by rw [h.dsz];exact(mH.1 hi).1
 have hset: ∀j,(done.setIfInBounds i true).getD j false=true->j=i\/done.getD j false=true:=fun j hj=>by
  by_cases hij:i=j
  ·exact .inl hij.symm
  ·rw [rY false hij]at hj;exact .inr hj
 have hseti:(done.setIfInBounds i true).getD i false=true:=by simp [hlt]
 have hun' :done.getD i false=false:=by simp [hlt]at hun ⊢;exact hun
 have hput: ∀k,(∀d,o.dst=some d->d≠k)->(a.put o.dst v).tmps.getD k undef=a.tmps.getD k undef:=fun k hk=>by
  cases hd:o.dst with
  |none=>rfl
  |some d=>
   have hda:d<a.tmps.size:=by rw [h.size];exact hdN d hd
   rw [lG hda,ei (hk d hd)]
 refine⟨h.ext.step hext hC,hsat,hown,?_,?_,by simp [h.dsz],fun j p hj hdone e he V=>?_,fun k u hk hno=>?_,fun j p d' u hj hdone hd' hu=>?_,fun j u hj hu k hk=>?_⟩
 ·cases o.dst with
  |none=>exact h.size
  |some d=>simp [Act.put,h.size]
 ·cases o.dst with
  |none=>exact h.defers
  |some d=>exact h.defers
 ·rcases hset j hdone with rfl|hj'
  ·rw [hi]at hj
   have:o=p:=by simpa using hj
   subst this
   exact ox (hwait e he V)
  ·exact ox (h.down j p hj hj' e he V)
 ·rw [hput k fun d hd e=>hno i o hi hseti (by rw [hd,e])]
  exact u.mono hext.keep (h.old k u hk fun j p hj hdone=>hno j p hj (ox hdone))
 ·by_cases hij:j=i
  ·subst hij
   rw [hi]at hj
   have:o=p:=by simpa using hj
   subst this
   have hda:d' <a.tmps.size:=by rw [h.size];exact hdN d' hd'
   rw [hd',lG hda,eF rfl]
   rw [D]at hu
   have:p0=u:=by simpa using hu
   subst this
   exact hv
  ·have hj' :=(hset j hdone).resolve_left hij
   rw [hput d' fun d hd e=>by subst e;exact hij (hs2 d hd j p hj hj' hd').symm]
   have e1:u.at σ' =u.at σ:=congrArg u.2 (List.map_congr_left fun k hk=>hσ k fun e=>by
     subst e
     rw [h.deps j u hj' hu k hk]at hun';cases hun')
   rw [e1]
   exact Ty.mono _ hext.keep (h.new j p d' u hj hj' hd' hu)
 ·rcases hset j hj with rfl|hj'
  ·rw [D]at hu
   have:p0=u:=by simpa using hu
   subst this
   rcases hdep k hk with rfl|h'
   ·exact hseti
   ·exact ox h'
  ·exact ox (h.deps j u hj' hu k hk)
end
def xL{l t:List Oper}{ts:List TS}{Ss:GN}(hsl:pz E.N.n [] l=true)(hlen:ts.length=l.length)(hesl:es.length=l.length)(hd:DT E G (l++t) ts Ss es 0 l es)(D:qm (l++t) l.length t.length=true)(hQ: ∀a w S σ,St E (B6 Ss (tt es) σ) (yj l (DB ts σ) G) a w S->wpListIn (fw E.r) 0 E.P (l++t).toArray Q t a w):
  ∀(fuel:Nat) (done:Array Bool) (a:Act) (w:World) (S:SH) (σ:Nat->OI),gz done=fuel->(∀j,l.length<=j->done.getD j false=false)->Fp E G (l++t) ts Ss es done a w S σ->wpAnyIn (fw E.r) 0 E.P .any (l++t).toArray Q fuel done a w:=by
 have hL1: ∀i o,i<l.length->(l++t)[i]? =some o->l[i]? =some o:=fun i o hi h=>by rwa [vj hi]at h
 have hL2: ∀i o,l[i]? =some o->(l++t)[i]? =some o:=fun i o h=>by rw [vj (mH.1 h).1];exact h
 have htail: ∀m o,l.length<=m->(l++t)[m]? =some o->oZ (l++t) m=true/\cQ m o=true:=fun m o hm ho=>by
  have hml:m<(l++t).length:=(mH.1 ho).1
  rw [hT]at hml
  unfold qm at D
  have:=kz.1 D (m-l.length) (by simp;omega)
  rw [show l.length+(m-l.length)=m from by omega,ho]at this
  simp only [kA]at this
  exact⟨this.1,this.2.1⟩
 have hget:=fun i o (hi:l[i]? =some o)=>DT.get l es 0 hd i o hi
 have hedge: ∀i o,(l++t)[i]? =some o->cQ i o=true:=fun i o hi=>by
  rcases iH i l.length with h|h
  ·obtain⟨_,_,_,_,_,_,_,h,_⟩:=hget i o (hL1 i o h hi)
   simpa using h
  ·exact(htail i o h hi).2
 obtain⟨hs1,hs2⟩:=sQ l [] hsl
 have fin: ∀fuel done a w S σ,gz done=fuel->(∀j,l.length<=j->done.getD j false=false)->Fp E G (l++t) ts Ss es done a w S σ->(∀i,i<l.length->done.getD i false=true)->wpAnyIn (fw E.r) 0 E.P .any (l++t).toArray Q fuel done a w:=by
  intro fuel done a w S σ hu hfree h hall
  have hdn:vE es done=tt es:=by
   unfold vE tt
   refine List.filter_congr fun k hk=>?_
   rw [hall k (by rw [<-hesl];exact List.mem_range.1 hk),Bool.and_true]
  have hown:=h.own
  rw [hdn]at hown
  refine qC (n:=l.length) (fun m o hm ho=>(htail m o hm ho).1) hedge t l.length done fuel a w (iZ _) (by simp) h.dsz (fun j hj=>⟨fun hjd=>?_,fun hlt=>hall j hlt⟩) hu
   (hQ a w S σ ⟨h.ext,h.sat,hown,h.size,h.defers,fun j u hj=>?_⟩)
  ·rcases iH j l.length with h' |h'
   ·exact h'
   ·rw [hfree j h']at hjd;cases hjd
  ·rcases vT l (DB ts σ) j u (by unfold DB;rw [List.length_map];exact hlen) hj with⟨i,o,Y,H,h3⟩|⟨Y,H⟩
   ·unfold DB at h3
    rw [List.getElem?_map]at h3
    cases M:ts[i]? with
    |none=>rw [M]at h3;simp at h3
    |some f=>
     rw [M]at h3
     have e:f.at σ=u:=by simpa using h3
     rw [<-e]
     exact h.new i o j f (hL2 i o Y) (hall i (mH.1 Y).1) H M
   ·refine h.old j u Y fun i o ho hdn=>?_
    rcases iH i l.length with h' |h'
    ·exact H o (pq (hL1 i o h' ho))
    ·rw [hfree i h']at hdn;cases hdn
 have lower: ∀done a w S σ i,(∀j,l.length<=j->done.getD j false=false)->Fp E G (l++t) ts Ss es done a w S σ->i∈Region.ready .any (l++t).toArray done->l.length<=i-> ∀j,j<l.length->done.getD j false=true:=by
  intro done a w S σ i hfree h hi hge j hj
  obtain⟨hun,p,hp,hwait⟩:=qw.1 hi
  have hp' :(l++t)[i]? =some p:=by simpa using hp
  have hcov:=(htail i p hge hp').1
  unfold oZ at hcov
  have hre:=kz.1 hcov j (by simp;omega)
  exact dO h.down _ i j (fun q hq e he V=>by
   have:q=p:=by rw [hp']at hq;simpa using hq.symm
   subst this
   exact hwait e he V) hre
 intro fuel
 induction fuel with
 |zero=>
  intro done a w S σ hu hfree h
  exact fin 0 done a w S σ hu hfree h fun i hi=>no hu (by rw [h.dsz,hT];omega)
 |succ fuel ih=>
  intro done a w S σ hu hfree h
  by_cases hall: ∀i,i<l.length->done.getD i false=true
  ·exact fin _ done a w S σ hu hfree h hall
  have hready0: ∀m i,i<m->i<l.length->Region.ready .any (l++t).toArray done=[]->done.getD i false=true:=by
   intro m
   induction m with
   |zero=>intro i h;omega
   |succ m ihm=>
    intro i him hil hr
    have his:i<done.size:=by rw [h.dsz,hT];omega
    by_cases hdn:done.getD i true=true
    ·rw [<-jx his];exact hdn
    ·exfalso
     obtain⟨o,ho⟩: ∃o,(l++t)[i]? =some o:=⟨l[i],hL2 i _ (lX hil)⟩
     have hmem:i∈Region.ready .any (l++t).toArray done:=by
      rw [qw]
      refine⟨by simpa using hdn,o,by simpa using ho,fun e he V=>?_⟩
      have:=hedge i o ho
      unfold cQ at this
      have:=kz.1 this e (by simpa using he)
      simp only [V,po,tI,pc]at this
      exact ihm e.on (by omega) (by omega) hr
     rw [hr]at hmem;cases hmem
  refine⟨fun hr=>absurd (fun i hi=>hready0 (i+1) i (by omega) hi hr) hall,fun i hi=>?_⟩
  have hil:i<l.length:=by
   rcases iH i l.length with h' |h'
   ·exact h'
   ·exact absurd (lower done a w S σ i hfree h hi h') hall
  obtain⟨hun,o,ho,hwait⟩:=qw.1 hi
  have ho' :(l++t)[i]? =some o:=by simpa using ho
  have hol:=hL1 i o hil ho'
  obtain⟨e,he,needs,u,Y,H,h3,_,h4,h5⟩:=hget i o hol
  rw [oa]at Y h3 h4
  have hF:=h.need ho' hun hwait H h3
  have his:i<done.size:=by rw [h.dsz,hT];omega
  have hun' :done.getD i false=false:=by rw [<-jx his];exact hun
  have hu' :gz (done.setIfInBounds i true)=fuel:=by have:=lg hun;omega
  have huq: ∀d,o.dst=some d-> ∀j p,(l++t)[j]? =some p->done.getD j false=true->p.dst=some d->i=j:=fun d hdd j p hj hjd hpd=>by
   rcases iH j l.length with h' |h'
   ·exact hs2 i j o p d hol (hL1 j p h' hj) hdd hpd
   ·rw [hfree j h']at hjd;cases hjd
  have hfree' : ∀j,l.length<=j->(done.setIfInBounds i true).getD j false=false:=fun j hj=>by
   rw [rY false (by omega)];exact hfree j hj
  have hbl:E.base<=w.heap.size:=h.ext.size
  have hwaits: ∀q,(l++t)[i]? =some q-> ∀e∈q.after,Region.binds .any e=true->done.getD e.on false=true:=fun q hq e he V=>by
   have:q=o:=by rw [ho']at hq;simpa using hq.symm
   subst this
   exact hwait e he V
  have hdpp: ∀k∈u.1,k=i\/done.getD k false=true:=fun k hk=>by
   have:=kz.1 h4 k hk
   simp only [kA,vf]at this
   rcases this.2 with V|V
   ·exact .inl (kB V)
   ·exact .inr (dO h.down _ i k hwaits V)
  have hdNN: ∀d,o.dst=some d->d<E.N.n:=fun d hd=>(hs1 o (pq hol) d hd).1
  unfold wpOpIn
  rw [ho]
  show if _ then _ else _
  -- just these effects stand
  have hpos:Iw (l++t) es i (vE es done)=false:=by
   rw [xH]
   intro hno
   unfold Iw at hno
   rw [vf]at hno
   rcases hno with hc|hc
   ·have:=(rt.1 (B9.1 hc)).2
    rw [this]at hun';cases hun'
   ·obtain⟨k,hk1,hk2⟩:=q7.1 hc
    have hke:es[k]? =some true:=by
     unfold tt at hk1
     rw [List.mem_filter,List.mem_range]at hk1
     have h7:=hk1.2
     rw [lX hk1.1]at h7 ⊢
     simpa using h7
    by_cases hin:(vE es done).contains k=true
    ·rw [eF hin,vf]at hk2
     have hkd:=(rt.1 (B9.1 hin)).2
     rcases hk2 with V|V
     ·have:=dO h.down _ k i (fun q hq e he V=>h.down k q hq hkd e he V) V
      rw [this]at hun';cases hun'
     ·obtain⟨j,hj1,hj2⟩:=q7.1 V
      rw [kA,za]at hj2
      have hje:es[j]? =some true:=by
       unfold tt at hj1
       rw [List.mem_filter,List.mem_range]at hj1
       have h7:=hj1.2
       rw [lX hj1.1]at h7 ⊢
       simpa using h7
      have hjd:=dO h.down _ k j (fun q hq e he V=>h.down k q hq hkd e he V) hj2.2
      have:=B9.2 (rt.2 ⟨hje,hjd⟩)
      rw [hj2.1]at this;cases this
    ·rw [ei hin]at hk2
     have hkd:=dO h.down _ i k hwaits hk2
     exact hin (B9.2 (rt.2 ⟨hke,hkd⟩))
  have hwin: ∀aas:List (List Nat),Ba (l++t) es i aas=true->vE es done∈aas:=by
   intro aas hw
   unfold Ba at hw
   have:=kz.1 hw _ (Dd es done)
   rw [hpos,tI]at this
   obtain⟨b,hb1,hb2⟩:=q7.1 this
   rw [<-zS hb2];exact hb1
  cases e with
  |false=>
   simp only at h5
   obtain⟨hdS,aas,hw,h5⟩:=h5
   rw [oa]at hw
   obtain⟨d,hdd⟩:=Option.isSome_iff_exists.1 hdS
   have h6:=h5.mem _ (hwin aas hw) σ a w S h.sat h.own hF
   have hdq:=BB (done:=done) he
   by_cases hw:Region.wanted o (yielded (l++t).toArray a.tmps)=true
   ·rw [eF hw]at h6 ⊢
    refine gj (fun a' w' ⟨v,S',ha,I,hs,hv⟩=>?_) h6
    subst ha
    exact ih _ _ _ S' _ hu' hfree' (h.step ho' hdNN huq hwait Y hun hdpp I (fun _ V=>V.elim) hs (by rw [hdq];exact h.own.ext0 I) (fun _ _=>rfl) hv)
   ·rw [ei hw]at h6 ⊢
    exact⟨fun _ _=>trivial,ih _ _ _ S _ hu' hfree' (h.step ho' hdNN huq hwait Y hun hdpp (ez.refl la _ _) (fun _ V=>V.elim) h.sat (by rw [hdq];exact h.own) (fun _ _=>rfl) h6)⟩
  |true=>
   simp only [oa]at h5
   obtain⟨aas,hw,hins,h5⟩:=h5
   obtain⟨p,hp1,hp2⟩:=List.mem_map.1 (hwin _ hw)
   have hp3:=zS (kz.1 hins p hp1)
   have h6:=h5.mem p hp1 σ a w S h.sat (by rw [hp2];exact h.own) hF hbl
   have hdq:vE es (done.setIfInBounds i true)=p.2:=by rw [ER he his,<-hp2,hp3]
   by_cases hw:Region.wanted o (yielded (l++t).toArray a.tmps)=true
   ·rw [eF hw]at h6 ⊢
    refine gj (fun a' w' ⟨v,S',x,ha,I,hs,hown,hv⟩=>?_) h6
    subst ha
    exact ih _ _ _ S' _ hu' hfree' (h.step ho' hdNN huq hwait Y hun hdpp I (fun b ⟨f,M,V⟩=>(cF.mem h.own f (by rw [<-hp2];exact M)).2 b V) hs (by rw [hdq];exact hown) (fun k hk=>t8 σ x hk) hv)
   ·rw [ei hw]at h6 ⊢
    obtain⟨x,hown,hv⟩:=h6
    exact⟨fun _ _=>trivial,ih _ _ _ S _ hu' hfree' (h.step ho' hdNN huq hwait Y hun hdpp (ez.refl la _ _) (fun _ V=>V.elim) h.sat (by rw [hdq];exact hown) (fun k hk=>t8 σ x hk) hv)⟩
def y0{id:Nat}(m:Nat)(ts:List TS)(es:List Bool)(Ss:GN)(hO: ∀σ,B6 Ss [] σ=O)(hm:E.P.follows .mixedOrders=true)(hsl:pz E.N.n [] (L.take m)=true)(hlen:ts.length=(L.take m).length)(hesl:es.length=(L.take m).length)(D:qm L (L.take m).length (L.drop m).length=true)(hd:DT E G L ts Ss es 0 (L.take m) es)(k: ∀σ:Nat->OI,RG E L.toArray Q (L.drop m) (B6 Ss (tt es) σ) (yj (L.take m) (DB ts σ) G)):CG E Q (.region id L.toArray true) O G:=fun a w S st=>by
 have hL:L=L.take m++L.drop m:=(pe m L).symm
 generalize L.take m=l at hL hsl hlen hesl D hd k
 generalize L.drop m=t at hL D k
 subst hL
 refine wpIn_region_any hm ?_
 obtain⟨he,hs⟩:=pT (w:=w) st.sat
 have hdn0:vE es (Array.replicate (l++t).toArray.size false)=[]:=by
  unfold vE
  refine List.filter_eq_nil_iff.2 fun k hk=>?_
  simp [qy]
  intro _
  split<;>simp
 refine xL hsl hlen hesl hd D (fun a w S σ st=>k σ a w S st) _ _ _ _ S (fun _=>nh) ?_ (fun j _=>?_)
  ⟨st.ext.step0 he,hs,by rw [hdn0,hO];exact st.own.ext0 he,st.facts.size,st.facts.defers,by simp,fun j o hj hdone=>?_,fun k t hk _=>st.facts.at_ k t hk,fun j o d t hj hdone=>?_,fun j p hdone=>?_⟩
 ·unfold gz;rw [Al,Aj];simp
 ·simp [qy];split<;>rfl
 ·simp [qy]at hdone
  split at hdone<;>simp at hdone
 ·simp [qy]at hdone
  split at hdone<;>simp at hdone
 ·simp [qy]at hdone
  split at hdone<;>simp at hdone

def cF.perm(h:O.Perm O'):cF base B w S O->cF base B w S O' :=by
 induction h with
 |nil=>exact id
 |cons x p ih=>
  rintro⟨Y,H,h3⟩
  exact⟨Y,fun f M=>H f (p.mem_iff.2 M),ih h3⟩
 |swap x y l=>
  rintro⟨Y,H,h3,h4,h5⟩
  refine⟨h3,fun f M k hk hfk=>?_,Y,fun f M=>H f (nf _ M),h5⟩
  rcases eV.1 M with rfl|M
  ·exact H x (k5 ..) k hfk hk
  ·exact h4 f M k hk hfk
 |trans _ _ ih1 ih2=>exact fun k=>ih2 (ih1 k)
def nz(O:List OE):List Nat->List OE
 |[]=>[]
 |i::l=>match O[i]? with
  |some e=>e::nz O l
  |none=>nz O l
def rp(O:List OE): ∀a b:List Nat,nz O (a++b)=nz O a++nz O b
 |[],_=>rfl
 |i::a,b=>by
  simp only [List.cons_append,nz]
  split<;>simp [rp O a b]
def zz{a b:List Nat}(h:a.Perm b):(nz O a).Perm (nz O b):=by
 induction h with
 |nil=>exact .nil
 |cons x p ih=>
  simp only [nz]
  split
  ·exact .cons _ ih
  ·exact ih
 |swap x y l=>
  simp only [nz]
  cases I:O[x]? <;>cases hy:O[y]? <;>simp<;>exact .swap ..
 |trans _ _ ih1 ih2=>exact ih1.trans ih2
def yh(O:List OE):nz O (List.range O.length)=O:=by
 have key: ∀n,n<=O.length->nz O (List.range n)=O.take n:=by
  intro n
  induction n with
  |zero=>intro _;rfl
  |succ n ih=>
   intro h
   rw [List.range_succ,rp,ih (by omega)]
   simp only [nz]
   rw [lX (by omega),A3 (by omega)]
 rw [key _ (iZ _),xE]
def cF.pick(l:List Nat)(hl:l.isPerm (List.range O.length)=true)(h:cF base B w S O):cF base B w S (nz O l):=
 h.perm (by
  have:=zz (O:=O) (List.isPerm_iff.1 hl)
  rw [yh]at this
  exact this.symm)

def ug{xs:List β}{v:β}{i:Int}(hi:0<=i/\i<(n:Int)):kU (kE q n) (kE q n) (i.toNat*q.sz) q xs v (xs.set i.toNat v):=fun S cs ds ⟨Y,H⟩ hd=>
 ⟨by rw [vF];exact Y,ro hd H (by omega)⟩
section
section
variable{ty:TypeId}
end
def iU{ty:TypeId}{l:Option Nat}{o:Nat}{j:Int}(hm:gI mm r U l cap xs∈O)(hy:eG xs j=some y)(hp:aD E.N G p (tV (gu l o))):
  bJ E O G ⟨dst,.nilCheck p,ty,pos,after,g⟩ (tV (gu l o)):=
 .of_pure fun a w S _ ho hF=>by
  have Y:a.eval p=gu l o:=hp S a hF
  obtain⟨_,hy'⟩:=fy hy
  obtain⟨b,cur,rfl,_⟩:=lN (ho.mem _ hm).1 hy'
  exact⟨gu (some b) o,by simp [execOp,Y,gu,aq],rfl⟩
end
open Go.ChangeShapes Go.WideShapes Go.ChangeAt

variable{h2:Type}{W:World}{enc:TypeId×Value->h2}
section
def wT(W:World):SH:=fun b=>W.heap[b]?
def FJ(W:World)(Z: ∀p∈G6,∃c aT fr,W.heap[p.1]? =some (.cells c aT fr)/\c.toList.take p.2.length=p.2)(D: ∀w' :World,(∀(b:Nat) (o:Obj),W.heap[b]? =some o-> ∃o',w'.heap[b]? =some o' /\yl o o')->G1 w'):gc W (wT W):=⟨fun _ o h=>⟨o,h,mX o⟩,Z,D⟩
def u0(enc:TypeId×Value->h2)(P:Program)(W:World){α:Type}(t:TypeId)(r:Rp α):Prop:=
 P.cellsOf t=r.sz/\ ∀fuel cs x,DataW.trod enc P W 0 (fun _=>true) true fuel t cs=some x-> ∃y,r.rc (wT W) cs y
def Cg(h:P.underlying t=some .bool)(hc:P.cellsOf t=1):u0 enc P W t rB:=⟨hc,fun fuel cs x I=>by
 cases fuel with
 |zero=>simp [DataW.trod]at I
 |succ n=>
  unfold DataW.trod at I
  rw [h]at I
  split at I
  all_goals try (injections;done)
  ·exact⟨_,rfl⟩⟩
def oj{α β:Type}{f:α->Option β}: ∀{l:List α} {r:List β},l.mapM f=some r->r.length=l.length/\ ∀(i:Nat) (x:α),l[i]? =some x-> ∃y,r[i]? =some y/\f x=some y
 |[],r,h=>by
  simp at h
  subst h
  exact⟨rfl,fun i x I=>by simp at I⟩
 |a::l,r,h=>by
  rw [List.mapM_cons]at h
  cases M:f a with
  |none=>rw [M]at h;simp at h
  |some b=>
   rw [M]at h
   cases hm:l.mapM f with
   |none=>rw [hm]at h;simp at h
   |some r' =>
    rw [hm]at h
    simp at h
    subst h
    obtain⟨Y,H⟩:=oj hm
    refine⟨by simp [Y],fun i x I=>?_⟩
    cases i with
    |zero=>simp at I;subst I;exact⟨b,rfl,M⟩
    |succ i=>exact H i x (by simpa using I)
def sE{a:Addr}(h:W.cell? a=some v):a.spot=none/\ ∃c E fr,W.heap[a.block]? =some (.cells c E fr)/\c[a.off]? =some v:=by
 unfold World.cell? at h
 cases ho:W.heap[a.block]? with
 |none=>rw [ho]at h;cases h
 |some o=>
  rw [ho]at h
  cases o with
  |cells c E fr=>
   simp only at h
   by_cases hs:a.spot.isSome=true
   ·rw [eF hs]at h;cases h
   ·rw [ei hs]at h
    exact⟨by cases hq:a.spot with
     |none=>rfl
     |some s=>rw [hq]at hs;simp at hs,c,E,fr,rfl,h⟩
  |_=>simp at h
def wl(a:Addr):a.add 0=a:=by unfold Addr.add;rfl
def z8(h:W.cells? 0 ⟨b,off,none⟩ n=some cs)(hn:0<n): ∃c E fr,W.heap[b]? =some (.cells c E fr)/\cs=(c.toList.drop off).take n:=by
 unfold World.cells? at h
 rw [eF (ky _)]at h
 obtain⟨Y,H⟩:=oj h
 obtain⟨v,_,hv⟩:=H 0 0 (by simp [hn])
 obtain⟨_,c,E,fr,h3,h4⟩:=sE hv
 refine⟨c,E,fr,by simpa [Addr.add] using h3,?_⟩
 apply xI
 intro i
 have hl:cs.length=n:=by simpa using Y
 by_cases hi:i<n
 ·obtain⟨v,h5,h6⟩:=H i i (by simp [hi])
  obtain⟨_,c',E',fr',h7,h8⟩:=sE h6
  rw [fe]at h7 h8
  have h7' :W.heap[b]? =some (.cells c' E' fr'):=h7
  have h3' :W.heap[b]? =some (.cells c E fr):=by simpa [Addr.add] using h3
  rw [h3']at h7'
  injection h7' with h7'
  injection h7' with e1
  subst e1
  rw [h5,tN hi,qg]
  simpa using h8.symm
 ·rw [A1 (by omega),A1 (by simp;omega)]
def Bb{q:Rp α}{len:Nat}{a:Addr}{x:DataW h2×List MemPlace}(h0' :0<q.sz)(hq:u0 enc P W e q)(I:(let elemAt (i:Nat):Option (DataW h2×List MemPlace):=(W.cells? 0 (a.add (i*P.cellsOf e)) (P.cellsOf e)).bind (DataW.trod enc P W 0 (fun _=>true) true n e)
   if 0<=a.block/\len<=cap/\cap<=maxLen then
    ((List.range len).mapM elemAt).bind fun elems=>
     (if(fun _=>true) a.block then(List.range (cap-len)).mapM fun j=>elemAt (len+j)else some []).map fun rest=>
      (DataW.slice (elems.map (·.1)) (rest.map (·.1)),MemPlace.row a ((elems.length+rest.length)*P.cellsOf e)++(elems++rest).flatMap (·.2))
   else none)=some x): ∃y,(eY q).rc (wT W) [.slice (some a) len cap] y:=by
 simp only at I
 split at I
 ·rename_i hcond
  obtain⟨_,hle,hmax⟩:=hcond
  cases hm:(List.range len).mapM (fun i=>(W.cells? 0 (a.add (i*P.cellsOf e)) (P.cellsOf e)).bind (DataW.trod enc P W 0 (fun _=>true) true n e))with
  |none=>rw [hm]at I;simp at I
  |some elems=>
   obtain⟨hm1,hm2⟩:=oj hm
   rw [hq.1]at hm2
   by_cases hl0:len=0
   ·subst hl0;exact⟨[],some a,cap,rfl,ky _,hmax,.inl rfl⟩
   have hsp0:a.spot=none:=by
    obtain⟨z,_,hz⟩:=hm2 0 0 (by rw [List.getElem?_range (by omega)])
    rw [Nat.zero_mul,wl]at hz
    cases hcs:W.cells? 0 a q.sz with
    |none=>rw [hcs]at hz;simp at hz
    |some cs1=>
     unfold World.cells? at hcs
     rw [eF (ky _)]at hcs
     obtain⟨_,g2⟩:=oj hcs
     obtain⟨v,_,hv⟩:=g2 0 0 (by simp [h0'])
     rw [wl]at hv
     exact(sE hv).1
   have hcell: ∀i,i<len-> ∃c E fr,a.spot=none/\W.heap[a.block]? =some (.cells c E fr)/\ ∃y,q.rc (wT W) ((c.toList.drop (a.off+i*q.sz)).take q.sz) y:=by
    intro i hi
    obtain⟨z,_,hz⟩:=hm2 i i (by simp [hi])
    cases hcs:W.cells? 0 (a.add (i*q.sz)) q.sz with
    |none=>rw [hcs]at hz;simp at hz
    |some cs1=>
     rw [hcs]at hz
     have hsp:a.spot=none:=hsp0
     obtain⟨ab,ao,az⟩:=a
     simp only at hsp
     subst hsp
     rw [fe]at hcs
     obtain⟨c,E,fr,g1,g2⟩:=z8 hcs h0'
     obtain⟨y,hy⟩:=hq.2 n cs1 z hz
     exact⟨c,E,fr,rfl,g1,y,by rw [<-g2];exact hy⟩
   obtain⟨c,E,fr,hsp,V,_⟩:=hcell 0 (by omega)
   have key: ∀m,m<=len-> ∃ys:List α,ys.length=m/\mD q (wT W) ((c.toList.drop a.off).take (m*q.sz)) ys:=by
    intro m
    induction m with
    |zero=>intro _;exact⟨[],rfl,by simp [mD]⟩
    |succ m ih=>
     intro hm'
     obtain⟨ys,hy1,hy2⟩:=ih (by omega)
     obtain⟨c',E',fr',_,hb',y,hy⟩:=hcell m (by omega)
     rw [V]at hb'
     injection hb' with hb'
     injection hb' with e1
     subst e1
     refine⟨ys++[y],by simp [hy1],?_⟩
     have hsplit:(c.toList.drop a.off).take ((m+1)*q.sz)=(c.toList.drop a.off).take (m*q.sz)++(c.toList.drop (a.off+m*q.sz)).take q.sz:=by
      rw [pn,Nat.one_mul,List.take_add,lW]
     rw [hsplit]
     exact oK hy2 (zy.2 hy)
   obtain⟨ys,hy1,hy2⟩:=key len (iZ _)
   obtain⟨ab,ao,az⟩:=a
   simp only at hsp
   subst hsp
   exact⟨ys,some ⟨ab,ao,none⟩,cap,by rw [hy1],by omega,hmax,.inr ⟨ab,ao,c,E,fr,rfl,V,by rw [hy1];exact hy2⟩⟩
 ·cases I
def sb{q:Rp α}(h:P.underlying t=some (.slice e))(hc:P.cellsOf t=1)(h0:Nat.blt 0 q.sz=true)(hq:u0 enc P W e q):u0 enc P W t (eY q):=⟨hc,fun fuel cs x I=>by
 have h0' :0<q.sz:=by simpa [pc] using h0
 cases fuel with
 |zero=>simp [DataW.trod]at I
 |succ n=>
  unfold DataW.trod at I
  rw [h]at I
  split at I
  all_goals try (injections;done)
  ·exact⟨[],none,0,rfl,iZ _,ky _,.inl rfl⟩
  ·rename_i e' a len cap heq
   injection heq with e1
   injection e1 with e1
   subst e1
   exact Bb h0' hq I⟩
def E5(enc:TypeId×Value->h2)(P:Program)(W:World){α:Type}(off:Nat)(l:List (TypeId×Nat))(r:Rp α):Prop:=
 ∀(fuel:Nat) (cs:List Value),cs.length=off+r.sz->(∀f∈l,∃x,DataW.trod enc P W 0 (fun _=>true) true fuel f.1 ((cs.drop f.2).take (P.cellsOf f.1))=some x)-> ∃y,r.rc (wT W) (cs.drop off) y
def uI{t:Nat}(h:u0 enc P W t r):E5 enc P W off [(t,off)] r:=fun fuel cs hl I=>by
 obtain⟨x,I⟩:=I _ (List.mem_singleton_self _)
 simp only at I
 rw [h.1,kC (by simp;omega)]at I
 exact h.2 _ _ _ I
def lq{p:Rp α}{t off' :Nat}{l:List (TypeId×Nat)}(h:u0 enc P W t p)(ho:off' =off+p.sz)(hr:E5 enc P W off' l q):E5 enc P W off ((t,off)::l) (cC p q):=fun fuel cs hl I=>by
 subst ho
 obtain⟨x,hx1⟩:=I _ (k5 ..)
 simp only at hx1
 rw [h.1]at hx1
 obtain⟨y,hy⟩:=h.2 _ _ _ hx1
 obtain⟨z,hz⟩:=hr fuel cs (by rw [hl];show off+(p.sz+q.sz)=_;omega) fun f M=>I f (nf _ M)
 exact⟨(y,z),_,_,by rw [<-lW];exact(pe _ _).symm,hy,hz⟩
def qE{l:List (TypeId×Nat)}{p:Rp α}{f:β->α}(D:(P.underlying t).map (fun d=>match d with| .struct l=>(true,l.toList.map fun f=>(f.type,f.offset))|_=>(false,[]))=some (true,l))(hc:P.cellsOf t=p.sz)(M: ∀y,∃x,f x=y)(hl:E5 enc P W 0 l p):u0 enc P W t (lO p f):=⟨hc,fun fuel cs x I=>by
 obtain⟨fs,Y,H⟩: ∃fs,P.underlying t=some (.struct fs)/\fs.toList.map (fun f=>(f.type,f.offset))=l:=by
  cases hu:P.underlying t with
  |none=>rw [hu]at D;cases D
  |some d=>
   rw [hu]at D
   cases d<;>simp at D
   exact⟨_,rfl,D⟩
 cases fuel with
 |zero=>simp [DataW.trod]at I
 |succ n=>
  unfold DataW.trod at I
  rw [Y]at I
  change (if cs.length=P.cellsOf t then(fs.toList.mapM fun f=>DataW.trod enc P W 0 (fun _=>true) true n f.type ((cs.drop f.offset).take (P.cellsOf f.type))).map (fun xs=>(DataW.agg (xs.map (·.1)),xs.flatMap (·.2)))else none)=some x at I
  split at I
  ·rename_i hlen
   cases hm:fs.toList.mapM (fun f=>DataW.trod enc P W 0 (fun _=>true) true n f.type ((cs.drop f.offset).take (P.cellsOf f.type)))with
   |none=>rw [hm]at I;simp at I
   |some r=>
    obtain⟨_,hm2⟩:=oj hm
    obtain⟨y,hy⟩:=hl n cs (by rw [hlen,hc];omega) (fun g Z=>by
     rw [<-H,List.mem_map]at Z
     obtain⟨f0,hf0,rfl⟩:=Z
     obtain⟨i,hi⟩:=List.getElem?_of_mem hf0
     obtain⟨z,_,hz⟩:=hm2 i f0 hi
     exact⟨z,hz⟩)
    obtain⟨x',hx'⟩:=M y
    refine⟨x',?_⟩
    show p.rc _ cs (f x')
    rw [hx']
    simpa using hy
  ·cases I⟩
def yb(h:u0 enc P W t r)(hag:r.agg=false){d:DataW h2}{ps:List MemPlace}(hv:DataW.Trod enc P W 0 (fun _=>true) true t v d ps)(hc:v.cells= #[v]): ∃y,(X r y).p (wT W) v:=by
 obtain⟨fuel,I⟩:=hv
 rw [hc]at I
 obtain⟨y,hy⟩:=h.2 _ _ _ I
 exact⟨y,_,by unfold Rp.val;rw [hag];rfl,hy⟩

def s8(D:P.underlying t=some (.slice e))(hv:Value.okWide P W .any base t v):v.cells= #[v]:=by
 cases v<;>first|rfl|(simp [Value.okWide,D,Cell.okWide,Cell.ok]at hv)
def xm{W' :World}(h:ez la W S W' S'):Below W.heap.size W W' :=⟨h.os,h.tape,h.output,h.size,fun k hk=>h.heap k hk (fun h=>h)⟩
def ql(hl:laidOutB P=true){W W' :World}(V:Below W.heap.size W W'){sp:Nat->Bool}: ∀{ts:List TypeId} {vs:List Value} {ds:List (DataW h2)} {ps:List MemPlace},(∀t∈ts,P.readableRec t=true/\t<P.types.size)->
  DataW.TrodAll enc P W 0 (fun _=>true) true ts vs ds ps->(∀p∈ps,p.block<W.heap.size)->(∀p∈ps,sp p.block=true)->DataW.TrodAll enc P W' 0 sp true ts vs ds ps
 |[],[],[],_,_,h,_,_=>h
 |t::ts,v::vs,d::ds,_,hr,⟨p,q,Y,H,e⟩,hlt,hsp=>by
  subst e
  have D:=hr t (k5 ..)
  exact⟨p,q,WideElems.Trod_stays hl D.1 D.2 Y (fun x I=>V.same (hlt x (AZ _ I))) (fun x I=>hsp x (AZ _ I)),
   ql hl V (fun t D=>hr t (nf _ D)) H (fun x I=>hlt x (List.mem_append_right _ I)) (fun x I=>hsp x (List.mem_append_right _ I)),rfl⟩
def CH{f:Func}{s:ChangeSpec}{apart fresh handsOn again:Bool}{W' :World}{args:Array Value}{ds gs:List (DataW h2)}{before:List MemPlace}{tb:TypeId}(hl:laidOutB P=true)(hr: ∀t∈f.params.toList,P.readableRec t=true/\t<P.types.size)(hvs:s.vars=[])(hres:f.resultTypes= #[tb])(htb:P.underlying tb=some .bool)(hW:DataW.Whole enc P f.params.toList s.vars apart W args.toList ds gs before)(hs:s.fn h2 (ds++gs)={results:=[.lit (.bool true)],args:=ds})(V:Below W.heap.size W W'):
  s.post enc P f apart fresh handsOn again W args (.bool true) W' :=by
 have hW0:=hW
 have hlt:=hW.lt
 obtain⟨pa,pv,hA,hV,rfl,hz,hn⟩:=hW
 rw [hvs]at hV
 have hpv:pv=[]:=by
  cases gs with
  |nil=>exact hV
  |cons g gs=>exact hV.elim
 subst hpv
 have hlt' : ∀p∈pa,p.block<W.heap.size:=fun p hp=>hlt p (by simpa using hp)
 have hargs: ∀sp:Nat->Bool,(∀p∈pa,sp p.block=true)->DataW.TrodAll enc P W' 0 sp true f.params.toList args.toList ds pa:=fun sp hsp=>ql hl V hr hA hlt' hsp
 have hresT: ∀(b:Nat) (sp:Nat->Bool) (hd:Bool),DataW.TrodAll enc P W' b sp hd f.resultTypes.toList ((Value.bool true).resultList f.resultTypes.size) [.lit (.bool true)] []:=fun b sp hd=>by
  rw [hres]
  exact⟨[],[],⟨1,by simp [DataW.trod,htb,Value.cells]⟩,rfl,rfl⟩
 have hvT: ∀sp:Nat->Bool,DataW.TrodVars enc P W' sp s.vars (s.fn h2 (ds++gs)).vars []:=fun sp=>by
  rw [hvs,hs];rfl
 have hargs' : ∀sp:Nat->Bool,(∀p∈pa,sp p.block=true)->DataW.TrodAll enc P W' 0 sp true f.params.toList args.toList (s.fn h2 (ds++gs)).args pa:=fun sp hsp=>by rw [hs];exact hargs sp hsp
 have hres' : ∀(b:Nat) (sp:Nat->Bool) (hd:Bool),DataW.TrodAll enc P W' b sp hd f.resultTypes.toList ((Value.bool true).resultList f.resultTypes.size) (s.fn h2 (ds++gs)).results []:=fun b sp hd=>by rw [hs];exact hresT b sp hd
 have hold: ∀p∈pa,(fun b=>decide (b<W.heap.size)) p.block=true:=fun p hp=>by simpa using hlt' p hp
 refine⟨ds,gs,pa++[],[],pa,[],hW0,hres' _ _ _,hargs' _ hold,hvT _,World.keptBut_mono (fun p hp=>⟨hp,?_⟩) (V.frame _),fun _=>?_⟩
 ·right;simpa using hp
 ·refine⟨?_,_,_,([]++pa)++[],⟨[]++pa,[],trodAll_append (hargs' _ (fun _ _=>rfl)) (hres' _ _ _),hvT _,rfl,?_,?_⟩,?_⟩
  ·intro j t r Y H
   rw [hres]at Y H
   cases j with
   |zero=>
    simp [Value.resultList]at Y H
    subst Y H
    simp [Value.okWide,htb,Cell.okWide,Cell.ok]
   |succ j=>simp at Y
  ·intro b off hp
   have hp' :MemPlace.cell b off∈pa:=by simpa using hp
   have:=hlt' _ hp'
   rw [V.frozen (p:=⟨b,off,none⟩) this]
   exact hz b off (by simpa using hp')
  ·intro ha
   have:=hn ha
   simpa using this
  ·intro p hp _
   simpa using hp
end

section
def xA{α:Type}(r:Rp α)(ok:α->Prop):Rp α where
 sz:=r.sz
 agg:=r.agg
 rc:=fun S cs x=>r.rc S cs x/\ok x
 mono:=fun h k=>⟨r.mono h k.1,k.2⟩
 len:=fun k=>r.len k.1
 one:=fun k=>r.one k.1
 sc:=r.sc
def wU(k:IntKind)(n:Int):Prop:=k.min<=n/\n<=k.max
def Ik(s:BH):Prop:=s.length<=maxLen
def inL{α:Type}(ok:α->Prop)(xs:List α):Prop:=xs.length<=maxLen/\ ∀x∈xs,ok x
def inT{α:Type}(_:α):Prop:=True
def ua(h:P.underlying t=some (.int k))(hc:P.cellsOf t=1):u0 enc P W t (xA (rI k) (wU k)):=⟨hc,fun fuel cs x I=>by
 cases fuel with
 |zero=>simp [DataW.trod]at I
 |succ n=>
  unfold DataW.trod at I
  rw [h]at I
  split at I
  all_goals try (injections;done)
  ·rename_i k1 k2 m heq
   injection heq with e
   injection e with e
   subst e
   split at I
   ·rename_i H
    obtain⟨rfl,h3⟩:=H
    simp only [Lit.wf,kA,decide_eq_true_eq]at h3
    exact⟨m,rfl,h3⟩
   ·cases I⟩
def Cf(h:P.underlying t=some .string)(hc:P.cellsOf t=1):u0 enc P W t (xA rS Ik):=⟨hc,fun fuel cs x I=>by
 cases fuel with
 |zero=>simp [DataW.trod]at I
 |succ n=>
  unfold DataW.trod at I
  rw [h]at I
  split at I
  all_goals try (injections;done)
  ·rename_i s heq
   split at I
   ·rename_i H;exact⟨s.data.toList,rfl,(show s.data.toList.length<=maxLen from(show s.size=s.data.toList.length from rfl)▸H)⟩
   ·cases I⟩
def Bc(h:P.underlying t=some .bool)(hc:P.cellsOf t=1):u0 enc P W t (xA rB inT):=
 ⟨hc,fun fuel cs x I=>by obtain⟨y,hy⟩:=(Cg (enc:=enc) (W:=W) h hc).2 fuel cs x I;exact⟨y,hy,trivial⟩⟩
def BJ{α:Type}(r' r:Rp α)(ok:α->Prop):Prop:=r'.sz=r.sz/\r'.agg=r.agg/\ ∀S cs x,r'.rc S cs x->r.rc S cs x/\ok x
def nW:BJ (xA r ok) r ok:=⟨rfl,rfl,fun _ _ _ h=>h⟩
def Au{α:Type}{r' r:Rp α}{ok:α->Prop}(h:BJ r' r ok){S:SH}: ∀{xs:List α} {cs:List Value},mD r' S cs xs->mD r S cs xs/\ ∀x∈xs,ok x
 |[],_,k=>⟨k,fun x I=>by cases I⟩
 |x::xs,_,⟨a,b,e,Y,H⟩=>by
  obtain⟨g1,g2⟩:=h.2.2 _ _ _ Y
  obtain⟨g3,g4⟩:=Au h H
  exact⟨⟨a,b,e,g1,g3⟩,fun y hy=>by
   rcases eV.1 hy with rfl|hy
   ·exact g2
   ·exact g4 y hy⟩
def zx{r' :Rp α}(h:BJ r' r ok):BJ (eY r') (eY r) (inL ok):=⟨rfl,rfl,fun S cs xs ⟨a,cap,e,Y,H,h3⟩=>by
 rcases h3 with h3|⟨b,off,c,E,fr,e1,e2,e3⟩
 ·exact⟨⟨a,cap,e,Y,H,.inl h3⟩,by omega,fun x I=>by rw [h3]at I;cases I⟩
 ·rw [h.1]at e3
  obtain⟨g1,g2⟩:=Au h e3
  exact⟨⟨a,cap,e,Y,H,.inr ⟨b,off,c,E,fr,e1,e2,g1⟩⟩,by omega,g2⟩⟩
def mQ{p' p:Rp α}{q' :Rp β}{f:α->Prop}{g:β->Prop}(h:BJ p' p f)(k:BJ q' q g):BJ (cC p' q') (cC p q) (fun x=>f x.1/\g x.2):=
 ⟨by show p'.sz+q'.sz=p.sz+q.sz;rw [h.1,k.1],rfl,fun S cs x ⟨a,b,e,Y,H⟩=>⟨⟨a,b,e,(h.2.2 _ _ _ Y).1,(k.2.2 _ _ _ H).1⟩,(h.2.2 _ _ _ Y).2,(k.2.2 _ _ _ H).2⟩⟩
def wL{p' p:Rp α}{f:β->α}(h:BJ p' p ok):BJ (lO p' f) (lO p f) (fun x=>ok (f x)):=
 ⟨h.1,rfl,fun S cs x k=>h.2.2 _ _ _ k⟩
def xn{r' :Rp α}(h:u0 enc P W t r')(hr:BJ r' r ok)(hag:r.agg=false){d:DataW h2}{ps:List MemPlace}(hv:DataW.Trod enc P W 0 (fun _=>true) true t v d ps)(hc:v.cells= #[v]): ∃y,(X r y).p (wT W) v/\ok y:=by
 obtain⟨y,cs,e,hy⟩:=yb h (by rw [hr.2.1];exact hag) hv hc
 obtain⟨g1,g2⟩:=hr.2.2 _ _ _ hy
 exact⟨y,⟨cs,by rw [e];unfold Rp.val;rw [hr.2.1],g1⟩,g2⟩
def Aa(D:P.underlying t=some .bool)(hv:Value.okWide P W .any base t v):v.cells= #[v]:=by
 cases v<;>first|rfl|(simp [Value.okWide,D,Cell.okWide,Cell.ok]at hv)
end

section
variable{held:Bool}
end

def rN{α:Type}(r:Rp α):Rp (α×Value) where
 sz:=r.sz
 agg:=r.agg
 rc:=fun S cs x=>r.rc S cs x.1/\cs=[x.2]
 mono:=fun h k=>⟨r.mono h k.1,k.2⟩
 len:=fun h=>r.len h.1
 one:=fun h=>r.one h.1
 sc:=r.sc
def yc{α:Type}{r:Rp α}(hfree: ∀{S S' :SH} {cs:List Value} {x:α},r.rc S cs x->r.rc S' cs x){S S' :SH}: ∀{xs:List α} {cs:List Value},mD r S cs xs->mD r S' cs xs
 |[],_,h=>h
 |_::_,_,h=>by
  obtain⟨ds,es,Y,H,h3⟩:=h
  exact⟨ds,es,Y,hfree H,yc hfree h3⟩
def Ae{t t' :OI->Ty}(hfree: ∀{S S' :SH} {cs:List Value} {x:α},r.rc S cs x->r.rc S' cs x)(htf: ∀(i:OI) (S S' :SH) (v:Value),(t i).p S v->(t' i).p S' v)(h:df P f ts [] t (fun i=>[tip r aT (i.h 0).1 (i.h 0).2 xs])):df P f ts [] t' (fun i=>[dX r aT (i.h 0).1 (i.h 0).2 xs]):=fun w S vs hs hv ho=>
 (h w S vs hs hv ho).mono fun en w' ⟨i,v,S',he,Y,H,h3,h4,h5⟩=>by
  have hnot: ∀k,¬ ∃f∈([]:List OE),f.fp k:=fun k ⟨f,M,_⟩=>by cases M
  have hsat:gc w' S:=hs.same fun b o k=>H.heap b (hs.lt k) (hnot b)
  have hext:ez (fun k=> ∃f∈([]:List OE),f.fp k) w S w' S:=⟨H.os,H.tape,H.output,H.drawn,H.size,H.heap,SH.le_refl _,fun _ _ _=>rfl⟩
  obtain⟨⟨⟨cells,g1,g2,g3⟩,_⟩,_,_⟩:=h4
  refine⟨i,v,S,he,htf i S' S v Y,hext,hsat,⟨⟨⟨cells,g1,yc hfree g2,fun b V=>?_⟩,fun _ _=> .inl (ky _)⟩,(fun _ M=>by cases M),trivial⟩,fun k hk=>?_⟩
  ·rcases h5 b ⟨_,k5 ..,V⟩with h6|h6
   ·exact absurd h6 (hnot b)
   ·show S b=none
    cases hS:S b with
    |none=>rfl
    |some o=>exact absurd (hs.lt hS) (by omega)
  ·obtain⟨f,M,hk⟩:=hk
   have:f=dX r aT (i.h 0).1 (i.h 0).2 xs:=by simpa using M
   subst this
   exact h5 k ⟨_,k5 ..,hk⟩
section
variable{ty:TypeId}
end

section
variable{ty:TypeId}
def hH{N:Fr}(hag:r.agg=true)(hr: ∀S,r.rc S [v] y)(h:aD N G x (tV (.agg #[v]))):aD N G x (X r y):=fun S a M=>⟨[v],by rw [Rp.val,eF hag];exact h S a M,hr S⟩
end

section
variable{t:ι->Ty}{O2:ι->List OE}
end

section
variable{ty:TypeId}
end
section
variable{ty:TypeId}
end

def J{α:Sort _}{a:α}:a=a:=rfl
def aX:True:=trivial
abbrev bX(x:Int):Ty:=X (rI .i64) x
abbrev ec(x:Bool):Ty:=X rB x
abbrev f6{α:Type}(l:List α):Ty:=X (rI .i64) (l.length:Int)
abbrev lK:Rp (List Int):=eY (rI .i64)
abbrev jT(l:List Int):Ty:=X (eY (rI .i64)) l
abbrev eE{α:Type}(r:Rp α)(l:List α):Ty:=X (eY r) l
abbrev n9{α:Type}(l:Option Nat)(c:Nat)(xs:List α):Ty:=tV (aM l c xs.length)
def bk: ∀{G' G:gJ},G'.map (fun p=>bu G p.1)=G'.map (fun p=>some p.2)->zk G' G
 |[],_,_=>trivial
 |(_,_)::_,_,h=>⟨(xC h).1,bk (xC h).2⟩

section
variable{ty:TypeId}
def jJ{x:Nat}{t:Ty}(h:bu G x=some t):bJ E O G ⟨dst,.move (.tmp x),ty,pos,after,g⟩ t:=bS (D h)
def re{x:Nat}{t:Ty}(h:bu G x=some t):bJ E O G ⟨dst,.assign (.tmp x),ty,pos,after,g⟩ t:=bF (D h)
def If{n:Int}:bJ E O G ⟨dst,.assign (.const (.int k n)),ty,pos,after,g⟩ (X (rI k) n):=bF hI
def Ig{b:Bool}:bJ E O G ⟨dst,.assign (.const (.bool b)),ty,pos,after,g⟩ (X rB b):=bF hB
def lc{x:α}{p:Nat}(ti:TI E.P U sz bytes agg z)(hp:bu G p=some (bp r x))(hs:(r.sz,r.agg)=(sz,agg)):
  bJ E O G ⟨dst,.load U (.tmp p),ty,pos,after,g⟩ (X r x):=d6 ti (tH hs).1 (tH hs).2 (D hp)
def jK{get:α->β}{x:α}{i:Nat}{p:Nat}(M:co E.P aT i=some (off,sz))(hq:jE r off q get)(hp:bu G p=some (bp r x))(h0:(!(Nat.beq sz 0)&&Nat.ble (off+q.sz) r.sz)=true):bJ E O G ⟨dst,.fieldAddr aT (.tmp p) i,ty,pos,after,g⟩ (bp q (get x)):=
 fE M (by cases h:Nat.beq sz 0<;>simp [h]at h0 ⊢) hq (by revert h0;cases Nat.ble (off+q.sz) r.sz<;>simp) (D hp)
def GG{x:Nat}(hu:E.P.underlying t=some (.slice e))(I:bu G x=some (X (eY r) xs)):
  bJ E O G ⟨dst,.call ⟨.builtin .len,#[.tmp x],#[t]⟩,ty,pos,after,g⟩ (X (rI .i64) (xs.length:Int)):=fc hu (D I)
def vc{x:Nat}{i:Nat}{t:Ty}(hi:ts[i]? =some t)(I:bu G x=some (tT ts)):bJ E O G ⟨dst,.extract (.tmp x) i,ty,pos,after,g⟩ t:=zG hi (D I)
def zbx{v:α}{x:Nat}(I:bu G x=some (X r v)):bJ E O G ⟨dst,.box aT (.tmp x),ty,pos,after,g⟩ (bp r v):=CB (D I)
def Ft{c x:Nat}{b q:Bool}(hc:bu G c=some (X rB b))(I:bu G x=some (iI b (X rB q))):bJ E O G ⟨dst,.pick (.tmp c) (.tmp x) (.const (.bool false)),ty,pos,after,g⟩ (X rB (b&&q)):=ll (D hc) (fun V=>ca I V)
def Ip{c x:Nat}{b q:Bool}(hc:bu G c=some (X rB b))(I:bu G x=some (iI (!b) (X rB q))):bJ E O G ⟨dst,.pick (.tmp c) (.const (.bool true)) (.tmp x),ty,pos,after,g⟩ (X rB (b||q)):=oh (D hc) (fun V=>ca I (sw V))
variable{xt yt:TypeId}{x y:Nat}{m n:Int}
def zlt(I:bu G x=some (X (rI k) m))(hy:bu G y=some (X (rI k) n)):bJ E O G ⟨dst,.binOp .lss xt (.tmp x) (.tmp y) yt,ty,pos,after,g⟩ (X rB (decide (m<n))):=eO (D I) (D hy)
def GJ{j:IntKind}(I:bu G x=some (X (rI j) m)):bJ E O G ⟨dst,.binOp .eql xt (.tmp x) (.const (.int j n)) yt,ty,pos,after,g⟩ (X rB (m==n)):=fF (D I) hI
def zni{j:IntKind}(I:bu G x=some (X (rI j) m)):bJ E O G ⟨dst,.binOp .neq xt (.tmp x) (.const (.int j n)) yt,ty,pos,after,g⟩ (X rB (m !=n)):=ia (D I) hI
def DV{y:α}{x ix:Nat}{k:IntKind}{i:Int}(hu:E.P.underlying t=some (.slice e))(ti:TI E.P e sz bytes agg z)(hsz:r.sz=sz)(I:bu G x=some (X (eY r) xs))(hi:bu G ix=some (X (rI k) i))(hy:eG xs i=some y):
  bJ E O G ⟨dst,.indexAddr t (.tmp x) (.tmp ix),ty,pos,after,g⟩ (bp r y):=bj hu ti hsz (D I) (D hi) hy
def Ie{i:Nat}{x:Nat}{xt yt:TypeId}(hi:i<9223372036854775807)(I:bu G x=some (X (rI .i64) (i:Int))):
  bJ E O G ⟨dst,.binOp .add xt (.tmp x) (.const (.int .i64 1)) yt,ty,pos,after,g⟩ (X (rI .i64) ((i+1:Nat):Int)):=p3 hi (D I) hI
def pr{i o:Nat}{p:Nat}(n:Nat)(M:co E.P aT i=some (off,sz))(h0:Nat.beq sz 0=false)(hp:bu G p=some (tV (aq b o)))(he:o+off=n):bJ E O G ⟨dst,.fieldAddr aT (.tmp p) i,ty,pos,after,g⟩ (tV (aq b n)):=j6 (n:=n) M h0 (D hp) he
end
section
variable{l:List Oper}
def zo{ty:TypeId}{t:Ty}(hd:Nat.blt d E.N.n=true)(h:bJ E O G ⟨some d,op,ty,pos,after,none⟩ t)(k:RG E ops Q l O ((d,t)::G)):
  RG E ops Q (⟨some d,op,ty,pos,after,none⟩::l) O G:=oq h hd k
def oO(n d:Nat)(r:Option Ty):Option Ty:=if Nat.blt d n then r else none
def cv{r:Option Ty}{t:Ty}(h:oO n d r=some t):Nat.blt d n=true/\r=some t:=by
 unfold oO at h;split at h
 case isTrue Y=>exact⟨Y,h⟩
 case isFalse=>cases h
def bg{x:Nat}{ty:TypeId}{t:Ty}(h:oO E.N.n d (bu G x)=some t)(k:RG E ops Q l O ((d,t)::G)):
  RG E ops Q (⟨some d,.move (.tmp x),ty,pos,after,none⟩::l) O G:=oq (bS (D (cv h).2)) (cv h).1 k
def f9{x:Nat}{ty:TypeId}{t:Ty}(h:oO E.N.n d (bu G x)=some t)(k:RG E ops Q l O ((d,t)::G)):
  RG E ops Q (⟨some d,.assign (.tmp x),ty,pos,after,none⟩::l) O G:=oq (bF (D (cv h).2)) (cv h).1 k
def bO{y:Code}(h:CG E Q y O G):RG E ops (Exit.then (y.wpIn (fw E.r) 0 E.P Q) Q) [] O G:=bc (au h)
def T{id:Nat}{l:List Oper}{y:Code}(h:RG E l.toArray (Exit.then (y.wpIn (fw E.r) 0 E.P Q) Q) l O G):CG E Q (.seq (.region id l.toArray false) y) O G:=aF (aC h)
def jH{β:Type _}{tD h1:Option β}{r:β}{c:Nat}{x y:Code}{b:Bool}(h:(if b=true then tD else h1)=some r)(V:bu G c=some (X rB b))(I:tD=some r->CG E Q x O G)(hy:h1=some r->CG E Q y O G):CG E Q (.cond (.tmp c) x y) O G:=
 lJ (D V) (fun hc=>I (ct h hc)) (fun hc=>hy (cf h hc))
def gg{y:Code}(h:CG E Q y O G):CG E (Exit.then (y.wpIn (fw E.r) 0 E.P Q) Q) .skip O G:=bH (au h)
def zgt{gs:Nat}{b:Bool}{ty:TypeId}{t:Ty}(hj:(ops[j]?).bind (·.dst)=some gs)(Z:oO E.N.n gs (oO E.N.n d (bu G gs))=some (X rB b))(h:b=true->bJ E O G ⟨some d,op,ty,pos,after,some (j,true)⟩ t)(k:RG E ops Q l O ((d,iI b t)::G)):RG E ops Q (⟨some d,op,ty,pos,after,some (j,true)⟩::l) O G:=E2 hj (cv Z).1 (cv (cv Z).2).2 (cv (cv Z).2).1 h k
def zgf{gs:Nat}{b:Bool}{ty:TypeId}{t:Ty}(hj:(ops[j]?).bind (·.dst)=some gs)(Z:oO E.N.n gs (oO E.N.n d (bu G gs))=some (X rB b))(h:(!b)=true->bJ E O G ⟨some d,op,ty,pos,after,some (j,false)⟩ t)(k:RG E ops Q l O ((d,iI (!b) t)::G)):RG E ops Q (⟨some d,op,ty,pos,after,some (j,false)⟩::l) O G:=E3 hj (cv Z).1 (cv (cv Z).2).2 (cv (cv Z).2).1 h k
end
def cq{α:Type _}{β:Type _}{x:Option α}{k:α->Option β}{r:β}{P:Prop}(h:x.bind k=some r)(f: ∀y,x=some y->k y=some r->P):P:=by
 obtain⟨y,Y,H⟩:=bs h;exact f y Y H
variable{u1:Ty}
section
variable{l:List Oper}{i:Nat}{t:Ty}
def tv{a b c:Bool}(h:(a&&b&&c)=true):a=true/\b=true/\c=true:=by revert h;cases a<;>cases b<;>cases c<;>simp
def G5{x:Option α}(h:x.isNone=true):x=none:=by cases x;rfl;cases h
def Cd(h:ts[i]? =some t)(k:bJ E O [] o t)(V:(cQ i o&&o.guard.isNone)=true:=by exact rfl): ∃(needs:List Nd) (t:Ty),ts[i]? =some t/\lb G ts needs/\(needs.all (jd l o i))=true/\cQ i o=true/\bG E O l.toArray (eM needs) o t:=
 ⟨[],t,h,trivial,rfl,(vi.1 V).1,ac (G5 (vi.1 V).2) k⟩
def lV(a:Nat)(h:ts[i]? =some t)(hu:pj G ts ⟨a,u,none⟩)(k:bJ E O [(a,u)] o t)(V:([(⟨a,u,none⟩:Nd)].all (jd l o i)&&cQ i o&&o.guard.isNone)=true:=by exact rfl): ∃(needs:List Nd) (t:Ty),ts[i]? =some t/\lb G ts needs/\(needs.all (jd l o i))=true/\cQ i o=true/\bG E O l.toArray (eM needs) o t:=
 ⟨[(⟨a,u,none⟩:Nd)],t,h,⟨hu,trivial⟩,(tv V).1,(tv V).2.1,ac (G5 (tv V).2.2) k⟩
def dg(a:Nat)(j:Nat)(h:ts[i]? =some t)(hu:pj G ts ⟨a,u,(some j)⟩)(k:bJ E O [(a,u)] o t)(V:([(⟨a,u,(some j)⟩:Nd)].all (jd l o i)&&cQ i o&&o.guard.isNone)=true:=by exact rfl): ∃(needs:List Nd) (t:Ty),ts[i]? =some t/\lb G ts needs/\(needs.all (jd l o i))=true/\cQ i o=true/\bG E O l.toArray (eM needs) o t:=
 ⟨[(⟨a,u,(some j)⟩:Nd)],t,h,⟨hu,trivial⟩,(tv V).1,(tv V).2.1,ac (G5 (tv V).2.2) k⟩
def zes(a:Nat)(j:Nat)(h:ts[i]? =some t)(hu:pj G ts ⟨a,u,(some j)⟩)(k:bG E O l.toArray [(a,u)] o t)(V:([(⟨a,u,(some j)⟩:Nd)].all (jd l o i)&&cQ i o)=true:=by exact rfl): ∃(needs:List Nd) (t:Ty),ts[i]? =some t/\lb G ts needs/\(needs.all (jd l o i))=true/\cQ i o=true/\bG E O l.toArray (eM needs) o t:=
 ⟨[(⟨a,u,(some j)⟩:Nd)],t,h,⟨hu,trivial⟩,(vi.1 V).1,(vi.1 V).2,k⟩
def nk(a:Nat)(a1:Nat)(j1:Nat)(h:ts[i]? =some t)(hu:pj G ts ⟨a,u,none⟩)(hu1:pj G ts ⟨a1,u1,(some j1)⟩)(k:bG E O l.toArray [(a,u),(a1,u1)] o t)(V:([(⟨a,u,none⟩:Nd),⟨a1,u1,(some j1)⟩].all (jd l o i)&&cQ i o)=true:=by exact rfl): ∃(needs:List Nd) (t:Ty),ts[i]? =some t/\lb G ts needs/\(needs.all (jd l o i))=true/\cQ i o=true/\bG E O l.toArray (eM needs) o t:=
 ⟨[(⟨a,u,none⟩:Nd),⟨a1,u1,(some j1)⟩],t,h,⟨hu,hu1,trivial⟩,(vi.1 V).1,(vi.1 V).2,k⟩
def eI(a:Nat)(j:Nat)(a1:Nat)(j1:Nat)(h:ts[i]? =some t)(hu:pj G ts ⟨a,u,(some j)⟩)(hu1:pj G ts ⟨a1,u1,(some j1)⟩)(k:bJ E O [(a,u),(a1,u1)] o t)(V:([(⟨a,u,(some j)⟩:Nd),⟨a1,u1,(some j1)⟩].all (jd l o i)&&cQ i o&&o.guard.isNone)=true:=by exact rfl): ∃(needs:List Nd) (t:Ty),ts[i]? =some t/\lb G ts needs/\(needs.all (jd l o i))=true/\cQ i o=true/\bG E O l.toArray (eM needs) o t:=
 ⟨[(⟨a,u,(some j)⟩:Nd),⟨a1,u1,(some j1)⟩],t,h,⟨hu,hu1,trivial⟩,(tv V).1,(tv V).2.1,ac (G5 (tv V).2.2) k⟩
def ek(a:Nat)(j:Nat)(a1:Nat)(j1:Nat)(h:ts[i]? =some t)(hu:pj G ts ⟨a,u,(some j)⟩)(hu1:pj G ts ⟨a1,u1,(some j1)⟩)(k:bG E O l.toArray [(a,u),(a1,u1)] o t)(V:([(⟨a,u,(some j)⟩:Nd),⟨a1,u1,(some j1)⟩].all (jd l o i)&&cQ i o)=true:=by exact rfl): ∃(needs:List Nd) (t:Ty),ts[i]? =some t/\lb G ts needs/\(needs.all (jd l o i))=true/\cQ i o=true/\bG E O l.toArray (eM needs) o t:=
 ⟨[(⟨a,u,(some j)⟩:Nd),⟨a1,u1,(some j1)⟩],t,h,⟨hu,hu1,trivial⟩,(vi.1 V).1,(vi.1 V).2,k⟩
def GP(a:Nat)(j:Nat)(a1:Nat)(j1:Nat)(a2:Nat)(j2:Nat){u2:Ty}(h:ts[i]? =some t)(hu:pj G ts ⟨a,u,(some j)⟩)(hu1:pj G ts ⟨a1,u1,(some j1)⟩)(hu2:pj G ts ⟨a2,u2,(some j2)⟩)(k:bJ E O [(a,u),(a1,u1),(a2,u2)] o t)(V:([(⟨a,u,(some j)⟩:Nd),⟨a1,u1,(some j1)⟩,⟨a2,u2,(some j2)⟩].all (jd l o i)&&cQ i o&&o.guard.isNone)=true:=by exact rfl): ∃(needs:List Nd) (t:Ty),ts[i]? =some t/\lb G ts needs/\(needs.all (jd l o i))=true/\cQ i o=true/\bG E O l.toArray (eM needs) o t:=
 ⟨[(⟨a,u,(some j)⟩:Nd),⟨a1,u1,(some j1)⟩,⟨a2,u2,(some j2)⟩],t,h,⟨hu,hu1,hu2,trivial⟩,(tv V).1,(tv V).2.1,ac (G5 (tv V).2.2) k⟩
def sN(a:Nat)(j:Nat)(a1:Nat)(j1:Nat)(a2:Nat)(j2:Nat){u2:Ty}(h:ts[i]? =some t)(hu:pj G ts ⟨a,u,(some j)⟩)(hu1:pj G ts ⟨a1,u1,(some j1)⟩)(hu2:pj G ts ⟨a2,u2,(some j2)⟩)(k:bG E O l.toArray [(a,u),(a1,u1),(a2,u2)] o t)(V:([(⟨a,u,(some j)⟩:Nd),⟨a1,u1,(some j1)⟩,⟨a2,u2,(some j2)⟩].all (jd l o i)&&cQ i o)=true:=by exact rfl): ∃(needs:List Nd) (t:Ty),ts[i]? =some t/\lb G ts needs/\(needs.all (jd l o i))=true/\cQ i o=true/\bG E O l.toArray (eM needs) o t:=
 ⟨[(⟨a,u,(some j)⟩:Nd),⟨a1,u1,(some j1)⟩,⟨a2,u2,(some j2)⟩],t,h,⟨hu,hu1,hu2,trivial⟩,(vi.1 V).1,(vi.1 V).2,k⟩
end
end Go.Proofs.YtbmmihfagmchaaaGreat

