/- cP of this claim: W33, W34, W35, W36, W37, W38, W39, W40, W48, W50, W51, W41, W42, W43, W21, W27, W45, W46, W47, W52, W53, W56, W57. -/
import Derived.Test.YtbmmihfagmchaaaGreatRbV2
import Derived.Lib.Bytealg
import Derived.Maps.Range
import Derived.Laws.IdiomRangeMap
import Derived.Test.YtbmmihfagmchaaaGreatRbV1
import Derived.Laws.BytesString
import Derived.Below
import Derived.ProofKit
import Derived.OpenShut
import Derived.LaidMore
import Derived.Laws.Externs
set_option linter.all false
namespace Go.Proofs.YtbmmihfagmchaaaGreat
open Go

def uc(N:Nat):List Nat->List Oper->Bool
 |_,[]=>true
 |seen,o::rest=>match o.dst with
  |some d=>Nat.blt d N&& !(seen.any (Nat.beq d))&&uc N (d::seen) rest
  |none=>uc N seen rest
variable{N:Nat}{β:Type}{d j:Nat}{o:Oper}{p:Operand}{q:Rp β}
def yA(l:List Oper): ∀(seen:List Nat),uc N seen l=true->
  (∀o:Oper,o∈l-> ∀d,o.dst=some d->d<N/\d∉seen)/\ ∀(i j:Nat) (o p:Oper) (d:Nat),l[i]? =some o->l[j]? =some p->o.dst=some d->p.dst=some d->i=j:=by
 induction l with
 |nil=>exact fun _ _=>⟨fun _ h=>(by cases h),fun _ _ _ _ _ h=>(by simp at h)⟩
 |cons o l ih=>
  intro seen h
  unfold uc at h
  cases hd:o.dst with
  |none=>
   rw [hd]at h
   obtain⟨Y,J⟩:=ih seen h
   refine⟨fun q hq d hqd=>?_,fun i j p q d hi hj hp hq=>?_⟩
   ·rcases fT.1 hq with rfl|hq
    ·rw [hd]at hqd;cases hqd
    ·exact Y q hq d hqd
   ·cases i with
    |zero=>simp at hi;subst hi;rw [hd]at hp;cases hp
    |succ i=>
     cases j with
     |zero=>simp at hj;subst hj;rw [hd]at hq;cases hq
     |succ j=>rw [J i j p q d (by simpa using hi) (by simpa using hj) hp hq]
  |some d0=>
   rw [hd]at h
   simp only [iX,tA,yo]at h
   obtain⟨⟨g1,g2⟩,g3⟩:=h
   obtain⟨Y,J⟩:=ih (d0::seen) g3
   have hns:d0∉seen:=fun hm=>by
    have:seen.any (Nat.beq d0)=true:=vv.2 ⟨d0,hm,Nat.beq_refl d0⟩
    rw [this]at g2;cases g2
   refine⟨fun q hq d hqd=>?_,fun i j p q d hi hj hp hq=>?_⟩
   ·rcases fT.1 hq with rfl|hq
    ·rw [hd]at hqd;cases hqd;exact⟨g1,hns⟩
    ·obtain⟨k1,k2⟩:=Y q hq d hqd
     exact⟨k1,fun hm=>k2 (mZ _ hm)⟩
   ·cases i with
    |zero=>
     cases j with
     |zero=>rfl
     |succ j=>
      simp at hi;subst hi
      rw [hd]at hp;cases hp
      exact absurd (lK ..) (Y q (rZ (by simpa using hj)) d0 hq).2
    |succ i=>
     cases j with
     |zero=>
      simp at hj;subst hj
      rw [hd]at hq;cases hq
      exact absurd (lK ..) (Y p (rZ (by simpa using hi)) d0 hp).2
     |succ j=>rw [J i j p q d (by simpa using hi) (by simpa using hj) hp hq]
def D9:List Oper->List Ty->jM->jM
 |o::l,t::ts,G=>match o.dst with
  |some d=>(d,t)::D9 l ts G
  |none=>D9 l ts G
 |_,_,G=>G
variable{G:jM}{e:TypeId}{k:IntKind}{t:TypeId}{ts:List Ty}{u:Ty}
def B2(l:List Oper): ∀(ts:List Ty) (k:Nat) (t:Ty),ts.length=l.length->bJ (D9 l ts G) k=some t->
  (∃(j:Nat) (o:Oper),l[j]? =some o/\o.dst=some k/\ts[j]? =some t)\/(bJ G k=some t/\ ∀o:Oper,o∈l->o.dst≠some k):=by
 induction l with
 |nil=>
  intro ts k t hl h
  have:ts=[]:=tX (by simpa using hl)
  subst this
  exact .inr ⟨h,fun _ h=>(by cases h)⟩
 |cons o l ih=>
  intro ts k t hl h
  cases ts with
  |nil=>simp at hl
  |cons u ts=>
   unfold D9 at h
   have hl' :ts.length=l.length:=by simpa using hl
   have lift:((∃(j:Nat) (p:Oper),l[j]? =some p/\p.dst=some k/\ts[j]? =some t)\/(bJ G k=some t/\ ∀p:Oper,p∈l->p.dst≠some k))->o.dst≠some k->
     (∃(j:Nat) (p:Oper),(o::l)[j]? =some p/\p.dst=some k/\(u::ts)[j]? =some t)\/(bJ G k=some t/\ ∀p:Oper,p∈o::l->p.dst≠some k):=by
    rintro(⟨j,p,Y,J,Z⟩|⟨Y,J⟩) hne
    ·exact .inl ⟨j+1,p,by simpa using Y,J,by simpa using Z⟩
    ·exact .inr ⟨Y,fun p hp=>(fT.1 hp).elim (fun e=>by subst e;exact hne) (J p)⟩
   cases hd:o.dst with
   |none=>
    rw [hd]at h
    exact lift (ih ts k t hl' h) (by rw [hd];exact fun e=>by cases e)
   |some d=>
    rw [hd]at h
    simp only at h
    unfold bJ at h
    by_cases V:Nat.beq d k=true
    ·rw [V]at h
     have:=nD V
     subst this
     have e:u=t:=by simpa using h
     subst e
     exact .inl ⟨0,o,rfl,hd,rfl⟩
    ·rw [wp]at V
     rw [V]at h
     refine lift (ih ts k t hl' h) ?_
     rw [hd]
     intro e
     have:d=k:=pZ e
     subst this
     simp at V
abbrev TS:=List Nat×(List OI->Ty)
def TS.at(p:TS)(σ:Nat->OI):Ty:=p.2 (p.1.map σ)
def tc(t:Ty):TS:=([],fun _=>t)
def I8(Ss:List ((Nat->OI)->List OE))(c:Nat)(σ:Nat->OI):List OE:=match Ss[c]? with|some f=>f σ|none=>[]
structure NS where
 slot:Nat
 ty:(Nat->OI)->Ty
 src:Option Nat
def NS.at(n:NS)(σ:Nat->OI):Nd:=⟨n.slot,n.ty σ,n.src⟩
def Ns(G:jM)(ts:List TS)(n:NS):Prop:=
 match n.src with
 |some j=> ∀σ,(ts[j]?).map (fun p=>p.at σ)=some (n.ty σ)
 |none=> ∀σ,bJ G n.slot=some (n.ty σ)
def tz(G:jM)(ts:List TS):List NS->Prop
 |[]=>True
 |n::l=>Ns G ts n/\tz G ts l
variable{n:Nat}
def tz.mem{ts:List TS}: ∀{l:List NS},tz G ts l-> ∀n∈l,Ns G ts n
 |_::_,⟨h,_⟩,_,.head _=>h
 |_::_,⟨_,h⟩,_,.tail _ hm=>tz.mem h _ hm
def tw(l:List NS)(σ:Nat->OI):jM:=gO (l.map (·.at σ))
def Ll(ts:List TS)(σ:Nat->OI):List Ty:=ts.map fun p=>p.at σ
def IB(L:List Oper)(es:List Bool)(i:Nat)(p:TS):Bool:=p.1.all fun k=>(es[k]?).getD false&&(Nat.beq k i||lD L L.length i k)
def Ol(L:List Oper)(es:List Bool)(i lo hi:Nat):Bool:=
 Nat.ble lo (fJ es es.length)&&(List.range es.length).all fun k=> !((es[k]?).getD false)||((Nat.ble lo (fJ es k)||lD L L.length i k)&&(Nat.blt (fJ es k) hi||lD L L.length k i))
def DS(E:En)(G:jM)(L:List Oper)(ts:List TS)(Ss:List ((Nat->OI)->List OE))(es0:List Bool):Nat->Nat->List Oper->List Bool->Prop
 |_,_,[],_=>True
 |i,c,o::rest,false::es=>(∃(needs:List NS) (t:TS) (lo hi:Nat),ts[i]? =some t/\tz G ts needs/\(needs.all fun n=>lM L o i (n.at fun _=>qg))=true/\dx i o=true/\IB L es0 i t=true/\Ol L es0 i lo hi=true/\o.dst.isSome=true/\
   ∀c σ,lo<=c->c<=hi->bO E (I8 Ss c σ) L.toArray (tw needs σ) o (t.at σ))/\DS E G L ts Ss es0 (i+1) c rest es
 |i,c,o::rest,true::es=>(∃(needs:List NS) (t:TS),ts[i]? =some t/\tz G ts needs/\(needs.all fun n=>lM L o i (n.at fun _=>qg))=true/\dx i o=true/\IB L es0 i t=true/\
   ∀σ,me E L.toArray (I8 Ss c σ) (tw needs σ) o (fun x=>I8 Ss (c+1) (Fo σ i x)) (fun x=>t.at (Fo σ i x)))/\DS E G L ts Ss es0 (i+1) (c+1) rest es
 |_,_,_::_,[]=>False
variable{E:En}{L:List Oper}{Ss:List ((Nat->OI)->List OE)}{α:Type}{c:Code}{es:List Bool}{lo:Int}{r:Rp α}{x:Operand}{σ:Nat->OI}
def DS.get{ts:List TS}{es0:List Bool}: ∀(r:List Oper) (es:List Bool) (k c:Nat),DS E G L ts Ss es0 k c r es-> ∀(j:Nat) (o:Oper),r[j]? =some o->
    ∃e,es[j]? =some e/\ ∃(needs:List NS) (t:TS),ts[k+j]? =some t/\tz G ts needs/\(needs.all fun n=>lM L o (k+j) (n.at fun _=>qg))=true/\dx (k+j) o=true/\IB L es0 (k+j) t=true/\
      (match e with
       |false=>o.dst.isSome=true/\ ∃lo hi,Ol L es0 (k+j) lo hi=true/\ ∀c σ,lo<=c->c<=hi->bO E (I8 Ss c σ) L.toArray (tw needs σ) o (t.at σ)
       |true=> ∀σ,me E L.toArray (I8 Ss (c+fJ es j) σ) (tw needs σ) o (fun x=>I8 Ss (c+fJ es j+1) (Fo σ (k+j) x)) (fun x=>t.at (Fo σ (k+j) x))):=by
  intro r
  induction r with
  |nil=>intro es k c _ j o h;simp at h
  |cons p r ih=>
    intro es k c h j o ho
    cases es with
    |nil=>exact h.elim
    |cons e es=>
      cases e with
      |false=>
        obtain⟨⟨needs,t,lo,hi,g1,g2,g3,g4,g5,g6,g7,g8⟩,J⟩:=h
        cases j with
        |zero=>
          simp at ho;subst ho
          exact⟨false,rfl,needs,t,g1,g2,g3,g4,g5,g7,lo,hi,g6,g8⟩
        |succ j=>
          obtain⟨e',g1,g2⟩:=ih es (k+1) _ J j o (by simpa using ho)
          refine⟨e',by simpa using g1,?_⟩
          rw [show k+1+j=k+(j+1)from by omega]at g2
          have e1:c+fJ (false::es) (j+1)=c+fJ es j:=by simp [fJ]
          rw [e1];exact g2
      |true=>
        obtain⟨Y,J⟩:=h
        cases j with
        |zero=>
          simp at ho;subst ho
          exact⟨true,rfl,Y⟩
        |succ j=>
          obtain⟨e',g1,g2⟩:=ih es (k+1) _ J j o (by simpa using ho)
          refine⟨e',by simpa using g1,?_⟩
          rw [show k+1+j=k+(j+1)from by omega]at g2
          have e1:c+fJ (true::es) (j+1)=c+1+fJ es j:=by simp [fJ];omega
          rw [e1];exact g2
structure N4(E:En)(G:jM)(l:List Oper)(ts:List TS)(Ss:List ((Nat->OI)->List OE))(es:List Bool)(done:Array Bool)(a:Act)(w:World)(S:SH)(σ:Nat->OI)(c:Nat):Prop where
 ext:gH E.B E.w0 E.S0 w S
 sat:jo w S
 own:cZ E.base E.B w S (I8 Ss c σ)
 size:a.tmps.size=E.N.n
 defers:a.defers=E.N.ds
 dsz:done.size=l.length
 down: ∀j o,l[j]? =some o->done.getD j false=true-> ∀e∈o.after,Region.binds .any e=true->done.getD e.on false=true
 old: ∀k t,bJ G k=some t->(∀j o,l[j]? =some o->done.getD j false=true->o.dst≠some k)->t.p S (a.tmps.getD k undef)
 new: ∀j o d p,l[j]? =some o->done.getD j false=true->o.dst=some d->ts[j]? =some p->(p.at σ).p S (a.tmps.getD d undef)
 deps: ∀j p,done.getD j false=true->ts[j]? =some p-> ∀k∈p.1,done.getD k false=true
 chain: ∀k,es[k]? =some true->(done.getD k false=true↔fJ es k<c)
variable{S S' :SH}{a:Act}{b:Nat}{done:Array Bool}{f:α->Option β}{κ:Type}{m:List (κ×β)}{v:Value}{w w' :World}
section
variable{ts:List TS}
def N4.need{c:Nat}(h:N4 E G L ts Ss es done a w S σ c){i:Nat}(hi:L[i]? =some o)(hun:done.getD i true=false)(hwait: ∀e∈o.after,Region.binds .any e=true->done.getD e.on false=true){needs:List NS}(Y:tz G ts needs)(J:(needs.all fun n=>lM L o i (n.at fun _=>qg))=true):cP E.N S a (tw needs σ):=by
 have hlt:i<done.size:=by rw [h.dsz];exact(qf.1 hi).1
 have hun' :done.getD i false=false:=by
  simp [hlt]at hun ⊢;exact hun
 refine⟨h.size,h.defers,?_⟩
 have key: ∀n∈needs,(n.ty σ).p S (a.tmps.getD n.slot undef):=by
  intro n hn
  have hs:=jK.1 J n hn
  have ho:=Y.mem n hn
  unfold lM NS.at at hs
  unfold Ns at ho
  cases hsrc:n.src with
  |some j=>
   rw [hsrc]at hs ho
   simp only [iX]at hs
   obtain⟨hs1,hs2⟩:=hs
   cases hj:L[j]? with
   |none=>rw [hj]at hs1;cases hs1
   |some p=>
    rw [hj]at hs1
    cases hd:p.dst with
    |none=>simp only [hd]at hs1;cases hs1
    |some d=>
     simp only [hd]at hs1
     have hd' :=nD hs1
     subst hd'
     have hdone:done.getD j false=true:=by
      unfold yu at hs2
      obtain⟨e,he0,V⟩:=vv.1 hs2
      have he:e∈o.after:=by simpa using he0
      simp only [iX]at V
      have:=hwait e he V.2
      rwa [nD V.1]at this
     have hm:=ho σ
     cases X:ts[j]? with
     |none=>rw [X]at hm;simp at hm
     |some f=>
      rw [X]at hm
      have e:f.at σ=n.ty σ:=by simpa using hm
      rw [<-e]
      exact h.new j p n.slot f hj hdone hd X
  |none=>
   rw [hsrc]at hs ho
   refine h.old _ _ (ho σ) fun j p hj hdone hd=>?_
   have:=jK.1 hs p (rZ hj)
   simp only [hd,Nat.beq_refl,nC,tZ]at this
   unfold yu at this
   obtain⟨e,he0,V⟩:=vv.1 this
   have he:e∈p.after:=by simpa using he0
   simp only [iX]at V
   have Z:=h.down j p hj hdone e he V.2
   rw [nD V.1]at Z
   rw [Z]at hun'
   cases hun'
 clear Y J
 intro k t hk
 unfold tw at hk
 induction needs with
 |nil=>simp [gO,bJ]at hk
 |cons n needs ih=>
  simp only [pn]at hk
  unfold gO bJ at hk
  by_cases V:Nat.beq n.slot k=true
  ·have hb' :Nat.beq (n.at σ).slot k=true:=V
   rw [hb']at hk
   have:=nD V
   subst this
   have h9:some (n.at σ).ty=some t:=by simpa using hk
   have e:n.ty σ=t:=pZ h9
   rw [<-e]
   exact key n (lK ..)
  ·rw [wp]at V
   have hb' :Nat.beq (n.at σ).slot k=false:=V
   rw [hb']at hk
   exact ih (fun m hm=>key m (mZ _ hm)) hk
def N4.step{σ' :Nat->OI}{c c' :Nat}(h:N4 E G L ts Ss es done a w S σ c){i:Nat}{p0:TS}{C:Nat->Prop}(hi:L[i]? =some o)(hdN: ∀d,o.dst=some d->d<E.N.n)(hs2: ∀d,o.dst=some d-> ∀j p,L[j]? =some p->done.getD j false=true->p.dst=some d->i=j)(hwait: ∀e∈o.after,Region.binds .any e=true->done.getD e.on false=true)(D:ts[i]? =some p0)(hun:done.getD i true=false)(hdep: ∀k∈p0.1,k=i\/done.getD k false=true)(hext:gH C w S w' S')(hC: ∀b,C b->E.base<=b\/E.B b)(hsat:jo w' S')(hown:cZ E.base E.B w' S' (I8 Ss c' σ'))(hσ: ∀k,k≠i->σ' k=σ k)(hv:(p0.at σ').p S' v)(hch: ∀k,es[k]? =some true->((done.setIfInBounds i true).getD k false=true↔fJ es k<c')):
  N4 E G L ts Ss es (done.setIfInBounds i true) (a.put o.dst v) w' S' σ' c' :=by
 have hlt:i<done.size:=by rw [h.dsz];exact(qf.1 hi).1
 have hset: ∀j,(done.setIfInBounds i true).getD j false=true->j=i\/done.getD j false=true:=fun j hj=>by
  by_cases hij:i=j
  ·exact .inl hij.symm
  ·rw [sf false hij]at hj;exact .inr hj
 have hseti:(done.setIfInBounds i true).getD i false=true:=by simp [hlt]
 have hun' :done.getD i false=false:=by simp [hlt]at hun ⊢;exact hun
 have hput: ∀k,(∀d,o.dst=some d->d≠k)->(a.put o.dst v).tmps.getD k undef=a.tmps.getD k undef:=fun k hk=>by
  cases hd:o.dst with
  |none=>rfl
  |some d=>
   have hda:d<a.tmps.size:=by rw [h.size];exact hdN d hd
   rw [ph hda,bo (hk d hd)]
 refine⟨h.ext.step hext hC,hsat,hown,?_,?_,by simp [h.dsz],fun j p hj hdone e he V=>?_,fun k u hk hno=>?_,fun j p d' u hj hdone hd' hu=>?_,fun j u hj hu k hk=>?_,hch⟩
 ·cases o.dst with
  |none=>exact h.size
  |some d=>simp [Act.put,h.size]
 ·cases o.dst with
  |none=>exact h.defers
  |some d=>exact h.defers
 ·rcases hset j hdone with rfl|hj'
  ·rw [hi]at hj
   have:o=p:=by simpa using hj
   subst this
   exact sQ (hwait e he V)
  ·exact sQ (h.down j p hj hj' e he V)
 ·rw [hput k fun d hd e=>hno i o hi hseti (by rw [hd,e])]
  exact u.mono hext.keep (h.old k u hk fun j p hj hdone=>hno j p hj (sQ hdone))
 ·by_cases hij:j=i
  ·subst hij
   rw [hi]at hj
   have:o=p:=by simpa using hj
   subst this
   have hda:d' <a.tmps.size:=by rw [h.size];exact hdN d' hd'
   rw [hd',ph hda,bD rfl]
   rw [D]at hu
   have:p0=u:=by simpa using hu
   subst this
   exact hv
  ·have hj' :=(hset j hdone).resolve_left hij
   rw [hput d' fun d hd e=>by subst e;exact hij (hs2 d hd j p hj hj' hd').symm]
   have e1:u.at σ' =u.at σ:=congrArg u.2 (Bg fun k hk=>hσ k fun e=>by
     subst e
     rw [h.deps j u hj' hu k hk]at hun';cases hun')
   rw [e1]
   exact Ty.mono _ hext.keep (h.new j p d' u hj hj' hd' hu)
 ·rcases hset j hj with rfl|hj'
  ·rw [D]at hu
   have:p0=u:=by simpa using hu
   subst this
   rcases hdep k hk with rfl|h'
   ·exact hseti
   ·exact sQ h'
  ·exact sQ (h.deps j u hj' hu k hk)
end
variable{Q:Exit->Act->World->Prop}
def DF{l t:List Oper}{ts:List TS}(hsl:uc E.N.n [] l=true)(hlen:ts.length=l.length)(hesl:es.length=l.length)(hd:DS E G (l++t) ts Ss es 0 0 l es)(hch:GC (l++t) es=true)(D:vf (l++t) l.length t.length=true)(hQ: ∀a w S σ,St E (I8 Ss (fJ es es.length) σ) (D9 l (Ll ts σ) G) a w S->wpListIn (fw E.r) 0 E.P (l++t).toArray Q t a w):
  ∀(fuel:Nat) (done:Array Bool) (a:Act) (w:World) (S:SH) (σ:Nat->OI) (c:Nat),jG done=fuel->(∀j,l.length<=j->done.getD j false=false)->c<=fJ es es.length->N4 E G (l++t) ts Ss es done a w S σ c->wpAnyIn (fw E.r) 0 E.P .any (l++t).toArray Q fuel done a w:=by
 have hL1: ∀i o,i<l.length->(l++t)[i]? =some o->l[i]? =some o:=fun i o hi h=>by rwa [u4 hi]at h
 have hL2: ∀i o,l[i]? =some o->(l++t)[i]? =some o:=fun i o h=>by rw [u4 (qf.1 h).1];exact h
 have htail: ∀m o,l.length<=m->(l++t)[m]? =some o->tf (l++t) m=true/\dx m o=true:=fun m o hm ho=>by
  have hml:m<(l++t).length:=(qf.1 ho).1
  rw [jE]at hml
  unfold vf at D
  have:=jK.1 D (m-l.length) (by simp;omega)
  rw [show l.length+(m-l.length)=m from by omega,ho]at this
  simp only [iX]at this
  exact⟨this.1,this.2.1⟩
 have hget:=fun i o (hi:l[i]? =some o)=>DS.get l es 0 0 hd i o hi
 have hedge: ∀i o,(l++t)[i]? =some o->dx i o=true:=fun i o hi=>by
  rcases ll i l.length with h|h
  ·obtain⟨_,_,_,_,_,_,_,h,_⟩:=hget i o (hL1 i o h hi)
   simpa using h
  ·exact(htail i o h hi).2
 obtain⟨hs1,hs2⟩:=yA l [] hsl
 have fin: ∀fuel done a w S σ c,jG done=fuel->(∀j,l.length<=j->done.getD j false=false)->c<=fJ es es.length->N4 E G (l++t) ts Ss es done a w S σ c->(∀i,i<l.length->done.getD i false=true)->wpAnyIn (fw E.r) 0 E.P .any (l++t).toArray Q fuel done a w:=by
  intro fuel done a w S σ c hu hfree hcle h hall
  have hcc:c=fJ es es.length:=by
   rcases ll c (fJ es es.length)with hlt|hge
   ·obtain⟨i,Y,J,Z⟩:=th hlt
    have:=(h.chain i J).1 (hall i (by omega))
    omega
   ·omega
  subst hcc
  refine vC (n:=l.length) (fun m o hm ho=>(htail m o hm ho).1) hedge t l.length done fuel a w (iQ _) (by simp) h.dsz (fun j hj=>⟨fun hjd=>?_,fun hlt=>hall j hlt⟩) hu
   (hQ a w S σ ⟨h.ext,h.sat,h.own,h.size,h.defers,fun j u hj=>?_⟩)
  ·rcases ll j l.length with h' |h'
   ·exact h'
   ·rw [hfree j h']at hjd;cases hjd
  ·rcases B2 l (Ll ts σ) j u (by unfold Ll;rw [zl];exact hlen) hj with⟨i,o,Y,J,Z⟩|⟨Y,J⟩
   ·unfold Ll at Z
    rw [yp]at Z
    cases X:ts[i]? with
    |none=>rw [X]at Z;simp at Z
    |some f=>
     rw [X]at Z
     have e:f.at σ=u:=by simpa using Z
     rw [<-e]
     exact h.new i o j f (hL2 i o Y) (hall i (qf.1 Y).1) J X
   ·refine h.old j u Y fun i o ho hdn=>?_
    rcases ll i l.length with h' |h'
    ·exact J o (rZ (hL1 i o h' ho))
    ·rw [hfree i h']at hdn;cases hdn
 have lower: ∀done a w S σ c i,(∀j,l.length<=j->done.getD j false=false)->N4 E G (l++t) ts Ss es done a w S σ c->i∈Region.ready .any (l++t).toArray done->l.length<=i-> ∀j,j<l.length->done.getD j false=true:=by
  intro done a w S σ c i hfree h hi hge j hj
  obtain⟨hun,p,hp,hwait⟩:=qr.1 hi
  have hp' :(l++t)[i]? =some p:=by simpa using hp
  have hcov:=(htail i p hge hp').1
  unfold tf at hcov
  have hre:=jK.1 hcov j (by simp;omega)
  exact fm h.down _ i j (fun q hq e he V=>by
   have:q=p:=by rw [hp']at hq;simpa using hq.symm
   subst this
   exact hwait e he V) hre
 have hchain: ∀i j,j<i->es[i]? =some true->es[j]? =some true->lD (l++t) (l++t).length i j=true:=fun i j hij Y J=>by
  unfold GC at hch
  have hil:i<es.length:=(qf.1 Y).1
  have:=jK.1 (jK.1 hch i (by simpa using hil)) j (by simpa using hij)
  rw [Y,J]at this
  simpa using this
 intro fuel
 induction fuel with
 |zero=>
  intro done a w S σ c hu hfree hcle h
  exact fin 0 done a w S σ c hu hfree hcle h fun i hi=>q8 hu (by rw [h.dsz,jE];omega)
 |succ fuel ih=>
  intro done a w S σ c hu hfree hcle h
  by_cases hall: ∀i,i<l.length->done.getD i false=true
  ·exact fin _ done a w S σ c hu hfree hcle h hall
  have hready0: ∀m i,i<m->i<l.length->Region.ready .any (l++t).toArray done=[]->done.getD i false=true:=by
   intro m
   induction m with
   |zero=>intro i h;omega
   |succ m ihm=>
    intro i him hil hr
    have his:i<done.size:=by rw [h.dsz,jE];omega
    by_cases hdn:done.getD i true=true
    ·rw [<-my his];exact hdn
    ·exfalso
     obtain⟨o,ho⟩: ∃o,(l++t)[i]? =some o:=⟨l[i],hL2 i _ (qY hil)⟩
     have hmem:i∈Region.ready .any (l++t).toArray done:=by
      rw [qr]
      refine⟨by simpa using hdn,o,by simpa using ho,fun e he V=>?_⟩
      have:=hedge i o ho
      unfold dx at this
      have:=jK.1 this e (by simpa using he)
      simp only [V,nC,tZ,tA]at this
      exact ihm e.on (by omega) (by omega) hr
     rw [hr]at hmem;cases hmem
  refine⟨fun hr=>absurd (fun i hi=>hready0 (i+1) i (by omega) hi hr) hall,fun i hi=>?_⟩
  have hil:i<l.length:=by
   rcases ll i l.length with h' |h'
   ·exact h'
   ·exact absurd (lower done a w S σ c i hfree h hi h') hall
  obtain⟨hun,o,ho,hwait⟩:=qr.1 hi
  have ho' :(l++t)[i]? =some o:=by simpa using ho
  have hol:=hL1 i o hil ho'
  obtain⟨e,he,needs,u,Y,J,Z,_,h4,h5⟩:=hget i o hol
  rw [pL]at Y Z h4
  have hF:=h.need ho' hun hwait J Z
  have his:i<done.size:=by rw [h.dsz,jE];omega
  have hun' :done.getD i false=false:=by rw [<-my his];exact hun
  have hu' :jG (done.setIfInBounds i true)=fuel:=by have:=oK hun;omega
  have huq: ∀d,o.dst=some d-> ∀j p,(l++t)[j]? =some p->done.getD j false=true->p.dst=some d->i=j:=fun d hdd j p hj hjd hpd=>by
   rcases ll j l.length with h' |h'
   ·exact hs2 i j o p d hol (hL1 j p h' hj) hdd hpd
   ·rw [hfree j h']at hjd;cases hjd
  have hfree' : ∀j,l.length<=j->(done.setIfInBounds i true).getD j false=false:=fun j hj=>by
   rw [sf false (by omega)];exact hfree j hj
  have hbl:E.base<=w.heap.size:=h.ext.size
  have hwaits: ∀q,(l++t)[i]? =some q-> ∀e∈q.after,Region.binds .any e=true->done.getD e.on false=true:=fun q hq e he V=>by
   have:q=o:=by rw [ho']at hq;simpa using hq.symm
   subst this
   exact hwait e he V
  have hdpp: ∀k∈u.1,k=i\/done.getD k false=true:=fun k hk=>by
   have:=jK.1 h4 k hk
   simp only [iX,vu]at this
   rcases this.2 with V|V
   ·exact .inl (nD V)
   ·exact .inr (fm h.down _ i k hwaits V)
  have hdNN: ∀d,o.dst=some d->d<E.N.n:=fun d hd=>(hs1 o (rZ hol) d hd).1
  unfold wpOpIn
  rw [ho]
  show if _ then _ else _
  cases e with
  |false=>
   simp only at h5
   obtain⟨hdS,lo,hi',hwin,h5⟩:=h5
   rw [pL]at hwin
   obtain⟨d,hdd⟩:=DA.1 hdS
   have hdN:=(hs1 o (rZ hol) d hdd).1
   unfold Ol at hwin
   rw [iX]at hwin
   obtain⟨hw1,hw2⟩:=hwin
   have hw1' :=po hw1
   have hwk: ∀k,es[k]? =some true->(Nat.ble lo (fJ es k)=true\/lD (l++t) (l++t).length i k=true)/\(Nat.blt (fJ es k) hi' =true\/lD (l++t) (l++t).length k i=true):=fun k hk=>by
    have hkl:k<es.length:=(qf.1 hk).1
    have:=jK.1 hw2 k (by simpa using hkl)
    rw [hk]at this
    simpa using this
   have hlo:lo<=c:=by
    rcases ll c lo with hlt|hge
    ·exfalso
     obtain⟨k,hk1,hk2,hk3⟩:=th (es:=es) (c:=c) (k:=es.length) (by omega)
     rcases(hwk k hk2).1 with V|V
     ·have:=po V;omega
     ·have:=(h.chain k hk2).1 (fm h.down _ i k hwaits V)
      omega
    ·exact hge
   have hhi:c<=hi' :=by
    rcases ll hi' c with hlt|hge
    ·exfalso
     obtain⟨k,hk1,hk2,hk3⟩:=th (es:=es) (c:=hi') (k:=es.length) (by omega)
     rcases(hwk k hk2).2 with V|V
     ·simp only [tA]at V;omega
     ·have hkd:done.getD k false=true:=(h.chain k hk2).2 (by omega)
      have:=fm h.down _ k i (fun q hq e he V=>h.down k q hq hkd e he V) V
      rw [this]at hun';cases hun'
    ·exact hge
   have h6:=h5 c σ hlo hhi a w S h.sat h.own hF
   have hch' : ∀k,es[k]? =some true->((done.setIfInBounds i true).getD k false=true↔fJ es k<c):=fun k hk=>by
    have hne:i≠k:=fun e=>by subst e;rw [he]at hk;cases hk
    rw [sf false hne];exact h.chain k hk
   by_cases hw:Region.wanted o (yielded (l++t).toArray a.tmps)=true
   ·rw [bD hw]at h6 ⊢
    refine js (fun a' w' ⟨v,S',ha,I,hs,hv⟩=>?_) h6
    subst ha
    exact ih _ _ _ S' _ c hu' hfree' hcle (h.step ho' hdNN huq hwait Y hun hdpp I (fun _ V=>V.elim) hs (h.own.ext0 I) (fun _ _=>rfl) hv hch')
   ·rw [bo hw]at h6 ⊢
    exact⟨fun _ _=>trivial,ih _ _ _ S _ c hu' hfree' hcle (h.step ho' hdNN huq hwait Y hun hdpp (gH.refl oT _ _) (fun _ V=>V.elim) h.sat h.own (fun _ _=>rfl) h6 hch')⟩
  |true=>
   simp only [pL]at h5
   -- it is the next one of the chain
   have hca:fJ es i=c:=by
    have hn: ¬fJ es i<c:=fun hlt=>by rw [(h.chain i he).2 hlt]at hun';cases hun'
    rcases ll c (fJ es i)with hlt|hge
    ·exfalso
     obtain⟨k,hk1,hk2,hk3⟩:=th hlt
     have hkd:done.getD k false=true:=fm h.down _ i k hwaits (hchain i k hk1 he hk2)
     have:=(h.chain k hk2).1 hkd
     omega
    ·omega
   subst hca
   have h6:=h5 σ a w S h.sat h.own hF hbl
   have hch' : ∀k,es[k]? =some true->((done.setIfInBounds i true).getD k false=true↔fJ es k<fJ es i+1):=fun k hk=>by
    by_cases hik:i=k
    ·subst hik
     constructor
     ·intro _;omega
     ·intro _;simp [his]
    ·rw [sf false hik,h.chain k hk]
     constructor
     ·intro h;omega
     ·intro hlt
      rcases ll i k with hlk|hlk
      ·have:=AV hlk he;omega
      ·exact AV (by omega) hk
   have hcle' :fJ es i+1<=fJ es es.length:=AV (by omega) he
   by_cases hw:Region.wanted o (yielded (l++t).toArray a.tmps)=true
   ·rw [bD hw]at h6 ⊢
    refine js (fun a' w' ⟨v,S',x,ha,I,hs,hown,hv⟩=>?_) h6
    subst ha
    exact ih _ _ _ S' _ _ hu' hfree' hcle' (h.step ho' hdNN huq hwait Y hun hdpp I (fun b ⟨f,X,V⟩=>(cZ.mem h.own f X).2 b V) hs hown (fun k hk=>zI σ x hk) hv hch')
   ·rw [bo hw]at h6 ⊢
    obtain⟨x,hown,hv⟩:=h6
    exact⟨fun _ _=>trivial,ih _ _ _ S _ _ hu' hfree' hcle' (h.step ho' hdNN huq hwait Y hun hdpp (gH.refl oT _ _) (fun _ V=>V.elim) h.sat hown (fun k hk=>zI σ x hk) hv hch')⟩
variable{O:List OE}
def jC{id:Nat}(m:Nat)(ts:List TS)(es:List Bool)(Ss:List ((Nat->OI)->List OE))(hO:Ss[0]? =some fun _=>O)(hm:E.P.follows .mixedOrders=true)(hsl:uc E.N.n [] (L.take m)=true)(hlen:ts.length=(L.take m).length)(hesl:es.length=(L.take m).length)(hch:GC L es=true)(D:vf L (L.take m).length (L.drop m).length=true)(hd:DS E G L ts Ss es 0 0 (L.take m) es)(k: ∀σ:Nat->OI,RG E L.toArray Q (L.drop m) (I8 Ss (fJ es es.length) σ) (D9 (L.take m) (Ll ts σ) G)):CG E Q (.region id L.toArray true) O G:=fun a w S st=>by
 have hL:L=L.take m++L.drop m:=(r0 m L).symm
 generalize L.take m=l at hL hsl hlen hesl D hd k
 generalize L.drop m=t at hL D k
 subst hL
 refine wpIn_region_any hm ?_
 obtain⟨he,hs⟩:=uF (w:=w) st.sat
 have hO0:I8 Ss 0 (fun _=>qg)=O:=by unfold I8;rw [hO]
 refine DF hsl hlen hesl hd hch D (fun a w S σ st=>k σ a w S st) _ _ _ _ S (fun _=>qg) 0 ?_ (fun j _=>?_) (mC _)
  ⟨st.ext.step0 he,hs,by rw [hO0];exact st.own.ext0 he,st.facts.size,st.facts.defers,by simp,fun j o hj hdone=>?_,fun k t hk _=>st.facts.at_ k t hk,fun j o d t hj hdone=>?_,fun j p hdone=>?_,fun k _=>⟨fun hdone=>?_,fun h=>(by omega)⟩⟩
 ·unfold jG;rw [GX,GV];simp
 ·simp [vw];split<;>rfl
 ·simp [vw]at hdone
  split at hdone<;>simp at hdone
 ·simp [vw]at hdone
  split at hdone<;>simp at hdone
 ·simp [vw]at hdone
  split at hdone<;>simp at hdone
 ·simp [vw]at hdone
  split at hdone<;>simp at hdone
def si{p:Nat->(Nat->OI)->Prop}{lo:Nat}(h: ∀σ,p lo σ): ∀c σ,lo<=c->c<=lo->p c σ:=fun c σ Y J=>by
 have:c=lo:=by omega
 subst this;exact h σ
def xy{p:Nat->(Nat->OI)->Prop}{lo hi:Nat}(h: ∀σ,p lo σ)(k: ∀c σ,lo+1<=c->c<=hi->p c σ): ∀c σ,lo<=c->c<=hi->p c σ:=fun c σ Y J=>by
 by_cases e:c=lo
 ·subst e;exact h σ
 ·exact k c σ (by omega) J
variable{after:Array Edge}{g:Option (Nat×Bool)}{ok:α->Prop}{op:Op}{pos:String}{post:OI->List OE}
def AM{ty:TypeId}(hnd: ∀c,op≠ .defer c)(h: ∀a w S,jo w S->cZ E.base E.B w S O->cP E.N S a G->E.base<=w.heap.size-> ∃w' S' x,(execOp a.eval ⟨none,op,ty,pos,after,g⟩).run E.P w= .ok .skip w' /\gH (wY O) w S w' S' /\jo w' S' /\cZ E.base E.B w' S' (post x)):
  EffOK E O G ⟨none,op,ty,pos,after,g⟩ post (fun _=>vF):=fun a w S hs ho X V=>by
 obtain⟨w',S',x,Y,J,Z,h4⟩:=h a w S hs ho X V
 refine⟨hnd,?_⟩
 rw [Y]
 exact⟨undef,S',x,rfl,J,Z,h4,trivial⟩

abbrev HL:=List (Nat×Value)
def uu:HL->Nat->Option Value
 |[],_=>none
 |p::hs,o=>bif Nat.beq p.1 o then some p.2 else uu hs o
def uU: ∀{hs:HL} {o:Nat} {v:Value},uu hs o=some v->(o,v)∈hs
 |[],_,_,h=>by cases h
 |p::hs,o,v,h=>by
  unfold uu at h
  by_cases V:Nat.beq p.1 o=true
  ·rw [V]at h
   have e1:=nD V
   have e2:p.2=v:=pZ h
   subst e1 e2
   exact lK ..
  ·rw [wp]at V
   rw [V]at h
   exact mZ _ (uU h)
def rH{α:Type}(r:Rp α)(hs:HL):Rp α where
 sz:=r.sz
 agg:=r.agg
 rc:=fun S cs x=>r.rc S cs x/\ ∀p∈hs,cs[p.1]? =some p.2
 mono:=fun h k=>⟨r.mono h k.1,k.2⟩
 len:=fun k=>r.len k.1
 one:=fun k=>r.one k.1
 sc:=r.sc
variable{cs:List Value}{off:Nat}
def OL{hs:HL}{get:α->β}(h:mf r off q get):mf (rH r hs) off q get:=fun S cs x k=>h S cs x k.1
def II(h:cs[off]? =some v):(cs.drop off).take 1=[v]:=by
 have hlt:=(qf.1 h).1
 rw [xu hlt,(qf.1 h).2]
 rfl
def RZ{hs:HL}(h:uu hs off=some v):mf (rH r hs) off rV (fun _=>v):=fun S cs x k=>by
 have Y:=k.2 _ (uU h)
 exact⟨II Y,r.one k.1 v (rZ Y)⟩
def HZ(z:List Value):HL->Prop
 |[]=>True
 |p::hs=>z[p.1]? =some p.2/\HZ z hs
variable{z:List Value}
def HZ.all: ∀{hs:HL},HZ z hs-> ∀p∈hs,z[p.1]? =some p.2
 |_::_,⟨h,_⟩,_,.head _=>h
 |_::_,⟨_,h⟩,_,.tail _ hm=>HZ.all h _ hm
def zH{x:α}{hs:HL}(h: ∀S,r.rc S z x)(k:HZ z hs): ∀S,(rH r hs).rc S z x:=fun S=>⟨h S,k.all⟩
def OH(hs:HL)(off sz:Nat):Bool:=hs.all fun p=>Nat.blt p.1 off||Nat.ble (off+sz) p.1
def RB(hs:HL)(off sz:Nat)(v:Option Value):HL->Prop
 |[]=>True
 |p::l=>((v=some p.2/\p.1=off/\sz=1)\/(uu hs p.1=some p.2/\(Nat.blt p.1 off||Nat.ble (off+sz) p.1)=true))/\RB hs off sz v l
variable{sz:Nat}
def RB.all{hs:HL}{v:Option Value}: ∀{l:HL},RB hs off sz v l-> ∀p∈l,(v=some p.2/\p.1=off/\sz=1)\/(uu hs p.1=some p.2/\(Nat.blt p.1 off||Nat.ble (off+sz) p.1)=true)
 |_::_,⟨h,_⟩,_,.head _=>h
 |_::_,⟨_,h⟩,_,.tail _ hm=>RB.all h _ hm
def yU{ds:List Value}{k:Nat}(hl:ds.length=sz)(hoff:off+sz<=cs.length)(h:(Nat.blt k off||Nat.ble (off+sz) k)=true):(cs.take off++ds++cs.drop (off+sz))[k]? =cs[k]? :=by
 simp only [vu,tA,Nat.ble_eq]at h
 have D:(cs.take off).length=off:=by simp;omega
 rcases h with h|h
 ·rw [u4 (by simp;omega),u4 (by omega),wr h]
 ·rw [qq (by simp;omega),tW]
  congr 1
  simp only [jE,D,hl];omega
def KU{ds:List Value}(hd:ds=[v])(hoff:off+1<=cs.length):(cs.take off++ds++cs.drop (off+1))[off]? =some v:=by
 subst hd
 have D:(cs.take off).length=off:=by simp;omega
 rw [u4 (by simp;omega),qq (by omega),D,xp]
 rfl
variable{y:α}
def Qf{hs:HL}{set:α->β->α}(h:g9 r off q set)(hk:OH hs off q.sz=true)(hoff:Nat.ble (off+q.sz) r.sz=true):g9 (rH r hs) off q set:=fun S cs x ds y Y J=>by
 refine⟨h S cs x ds y Y.1 J,fun p hp=>?_⟩
 have hl:=r.len Y.1
 rw [yU (q.len J) (by have:=po hoff;omega) (jK.1 hk p hp)]
 exact Y.2 _ hp
variable{hg U:TypeId}{hb:MV β}{agg:Bool}{bytes cap:Nat}{dst:Option Tmp}{ops:Array Oper}{rest:List Oper}{xs:List α}
section
variable{e:Exit}
section
variable{ty:TypeId}
def tm{t:OI->Ty}(h:EffOK E O G ⟨none,op,ty,pos,after,none⟩ post t)(k: ∀x,RG E ops Q rest (post x) G):RG E ops Q (⟨none,op,ty,pos,after,none⟩::rest) O G:= .of rfl fun a w S st=>
 mj (fun a' w' ⟨v,S',x,ha,I,hs,ho,hv⟩=>by
  subst ha
  exact k x _ _ S' ⟨st.ext.step I fun b ⟨f,X,V⟩=>(cZ.mem st.own f X).2 b V,hs,ho,st.facts.mono I.keep⟩) (h a w S st.sat st.own st.facts st.base_le)
def gD{γ:Type}{r' :Rp γ}{x:α}{x' :γ}{y:β}{v:Operand}(ti:TI E.P U sz bytes agg z)(hsz:q.sz=sz)(hset:ov r r' off q x y x')(hoff:Nat.ble (off+q.sz) r.sz=true)(hp:aE E.N G p (tV (ax b off)))(hv:aE E.N G v (H q y)):EffOK E (bx r hg b x::O) G ⟨none,.store U p v,ty,pos,after,g⟩ (fun _=>bx r' hg b x' ::O) (fun _=>vF):=AM (fun _ h=>(by cases h)) fun a w S hs ho X V=>by
 have Y:a.eval p=ax b off:=hp S a X
 obtain⟨ds,J,Z⟩:=hv S a X
 obtain⟨⟨hno,cur,h5,h6⟩,_⟩:=ho.1
 have hl:=r.len h6
 have hoff' :=po hoff
 obtain⟨w',hr,e1,e2,e3,e4,e5,e6⟩:=iG ti hsz Z h5 (off:=off) (by simp at hl;omega)
 have hrun:(execOp a.eval ⟨none,.store U p v,ty,pos,after,g⟩).run E.P w= .ok .skip w' :=by
  simp [execOp,Y,J,Instr.storeAt,ax,Instr.sureAddr,hr]
 obtain⟨g1,g2,g3⟩:=nt (O:=O) hs (bx r hg b x) (bx r' hg b x') ho (fun _=>sd) (fun _=>sd) ⟨e1,e2,e3,e4.1,e4.2⟩ e6 ⟨hno,_,e5,by simpa using hset S _ _ h6 Z⟩ hno
 exact⟨w',S,qg,hrun,g1.more fun k hk=>⟨_,lK ..,hk⟩,g2,g3⟩
def AL{set:α->β->α}{hs hs' :HL}{x:α}{y:β}{u:Value}{v:Operand}(ti:TI E.P U 1 bytes false z)(hsz:q.sz=1)(hag:q.agg=false)(hset:g9 r off q set)(hoff:Nat.ble (off+1) r.sz=true)(hk:RB hs off 1 (some u) hs')(hp:aE E.N G p (tV (ax b off)))(hv:aE E.N G v (H q y))(hu:aE E.N G v (tV u)):EffOK E (bx (rH r hs) hg b x::O) G ⟨none,.store U p v,ty,pos,after,g⟩ (fun _=>bx (rH r hs') hg b (set x y)::O) (fun _=>vF):=AM (fun _ h=>(by cases h)) fun a w S hsat ho X V=>by
 have Y:a.eval p=ax b off:=hp S a X
 obtain⟨ds,J,Z⟩:=hv S a X
 have hu' :a.eval v=u:=hu S a X
 obtain⟨⟨hno,cur,h5,h6⟩,_⟩:=ho.1
 have hl:=r.len h6.1
 have hoff' :=po hoff
 have hdl:=q.len Z
 have hds:ds=[u]:=by
  obtain⟨d,hd⟩:=List.length_eq_one_iff.1 (by rw [hdl,hsz]:ds.length=1)
  subst hd
  have e1:q.val [d]=d:=by simp [Rp.val,hag]
  rw [J,e1]at hu'
  rw [hu']
 obtain⟨w',hr,e1,e2,e3,e4,e5,e6⟩:=iG ti hsz Z h5 (off:=off) (by simp at hl;omega)
 have hrun:(execOp a.eval ⟨none,.store U p v,ty,pos,after,g⟩).run E.P w= .ok .skip w' :=by
  simp [execOp,Y,J,Instr.storeAt,ax,Instr.sureAddr,hr]
 rw [hsz]at e5
 have hnew:(rH r hs').rc S (cur.toList.take off++ds++cur.toList.drop (off+1)) (set x y):=by
  have h7:=hset S _ _ _ _ h6.1 Z
  rw [hsz]at h7
  refine⟨h7,fun p hp=>?_⟩
  rcases hk.all p hp with⟨f1,f2,_⟩|⟨f1,f2⟩
  ·rw [f2]
   exact KU (by rw [hds,pZ f1]) (by omega)
  ·rw [yU (by rw [hdl,hsz]) (by omega) f2]
   exact h6.2 _ (uU f1)
 obtain⟨g1,g2,g3⟩:=nt (O:=O) hsat (bx (rH r hs) hg b x) (bx (rH r hs') hg b (set x y)) ho (fun _=>sd) (fun _=>sd) ⟨e1,e2,e3,e4.1,e4.2⟩ e6 ⟨hno,_,e5,by simpa using hnew⟩ hno
 exact⟨w',S,qg,hrun,g1.more fun k hk=>⟨_,lK ..,hk⟩,g2,g3⟩
end
section
variable{ty:TypeId}
def JM{hs:HL}{x:α}{u:Value}(ti:TI E.P U 1 bytes false z)(hk:uu hs off=some u)(hm:bx (rH r hs) hg b x∈O)(hp:aE E.N G p (tV (ax b off))):
  bR E O G ⟨dst,.load U p,ty,pos,after,g⟩ (tV u):=(bf (q:=rV) ti rfl rfl (RZ hk) hm hp).imp fun _ _ h=>(p6.1 h).1
def gh{q:Rp α}{r:Rp β}{hs:HL}{x:β}{hb:TypeId}{l:Option Nat}(ti:TI E.P U 1 bytes false z)(hk:uu hs off=some (aK l cap xs.length))(hm:bx (rH r hs) hg b x∈O)(hm2:gT q hb l cap xs∈O)(hp:aE E.N G p (tV (ax b off))):
  bR E O G ⟨dst,.load U p,ty,pos,after,g⟩ (tO q l cap xs):=fun a w S hs' ho X=>
 mj (fun _ _ ⟨v,S',Y,J,Z,h4⟩=>⟨v,S',Y,J,Z,h4,by
  have h5:v=aK l cap xs.length:=h4
  rw [h5]
  exact pw (((ho.ext0 J).mem _ hm2).1)⟩) (JM (g:=g) (ty:=ty) (pos:=pos) (after:=after) (dst:=dst) ti hk hm hp a w S hs' ho X)
def LU{t:Ty}(Y: ∀S v,t.p S v->v.oneCell' =true)(I:aE E.N G x t):bR E O G ⟨dst,.box hg x,ty,pos,after,g⟩ (bw (rT t) ()):=
 JN (fun S a X=>RS.2 ⟨Y _ _ (I S a X),I S a X⟩)
end
def LI:HL->HL->Prop
 |[],_=>True
 |p::l,hs=>uu hs p.1=some p.2/\LI l hs
def LI.all{hs:HL}: ∀{l:HL},LI l hs-> ∀p∈l,p∈hs
 |_::_,⟨h,_⟩,_,.head _=>uU h
 |_::_,⟨_,h⟩,_,.tail _ hm=>LI.all h _ hm
end

variable{O' :List OE}
def EffOK.perm{t:OI->Ty}(h:EffOK E O' G o post t)(k: ∀{w S},cZ E.base E.B w S O->cZ E.base E.B w S O')(m: ∀f∈O',f∈O):EffOK E O G o post t:=fun a w S hs ho X V=>
 mj (fun _ _ ⟨v,S',x,Y,J,Z,h4,h5⟩=>⟨v,S',x,Y,J.more fun _ ⟨f,X,hk⟩=>⟨f,m f X,hk⟩,Z,h4,h5⟩) (h a w S hs (k ho) X V)
variable{x0 x1 x2 x3 x4:OE}
namespace EffOK
section
variable{t:OI->Ty}
def fr1(h:EffOK E (x1::x0::O) G o post t):EffOK E (x0::x1::O) G o post t:=h.perm (fun hw=>cZ.swap hw) (fun f X=>by simp only [fT]at X ⊢;rcases X with h|h|h<;>simp [h])
def fr2(h:EffOK E (x2::x0::x1::O) G o post t):EffOK E (x0::x1::x2::O) G o post t:=h.perm (fun hw=>qW hw) (fun f X=>by simp only [fT]at X ⊢;rcases X with h|h|h|h<;>simp [h])
def fr3(h:EffOK E (x3::x0::x1::x2::O) G o post t):EffOK E (x0::x1::x2::x3::O) G o post t:=h.perm (fun hw=>qV hw) (fun f X=>by simp only [fT]at X ⊢;rcases X with h|h|h|h|h<;>simp [h])
def fr4(h:EffOK E (x4::x0::x1::x2::x3::O) G o post t):EffOK E (x0::x1::x2::x3::x4::O) G o post t:=h.perm (fun hw=>qU hw) (fun f X=>by simp only [fT]at X ⊢;rcases X with h|h|h|h|h|h<;>simp [h])
def fr6{x5 x6:OE}(h:EffOK E (x6::x0::x1::x2::x3::x4::x5::O) G o post t):EffOK E (x0::x1::x2::x3::x4::x5::x6::O) G o post t:=h.perm (fun hw=>tp hw) (fun f X=>by simp only [fT]at X ⊢;rcases X with h|h|h|h|h|h|h|h<;>simp [h])
def fr7{x5 x6 x7:OE}(h:EffOK E (x7::x0::x1::x2::x3::x4::x5::x6::O) G o post t):EffOK E (x0::x1::x2::x3::x4::x5::x6::x7::O) G o post t:=h.perm (fun hw=>AY hw) (fun f X=>by simp only [fT]at X ⊢;rcases X with h|h|h|h|h|h|h|h|h<;>simp [h])
def post_imp{post' :OI->List OE}(h:EffOK E O G o post t)(k: ∀{w S x},cZ E.base E.B w S (post x)->cZ E.base E.B w S (post' x)):EffOK E O G o post' t:=fun a w S hs ho X V=>
 mj (fun _ _ ⟨v,S',x,Y,J,Z,h4,h5⟩=>⟨v,S',x,Y,J,Z,k h4,h5⟩) (h a w S hs ho X V)
end
end EffOK
variable{P:Program}{args:α->List Ty}{ats:Array TypeId}{mm:Bool}{res:β->Ty}{ys:List α}
section
variable{ty:TypeId}
def Gu{zs:List α}{v:α}{i:Int}(ti:TI E.P U sz bytes agg z)(hsz:r.sz=sz)(hy:cQ xs i=some y)(hz:xs.set i.toNat v=zs)(hp:aE E.N G p (tV (ax b (i.toNat*r.sz))))(hv:aE E.N G x (H r v)):EffOK E (bx (nK r n) hg b xs::O) G ⟨none,.store U p x,ty,pos,after,g⟩ (fun _=>bx (nK r n) hg b zs::O) (fun _=>vF):=AM (fun _ h=>(by cases h)) fun a w S hsat hown X hbase=>by
 subst hz
 have Y:a.eval p=ax b (i.toNat*r.sz):=hp S a X
 obtain⟨ds,J,Z⟩:=hv S a X
 obtain⟨⟨hno,cur,h5,h6⟩,_⟩:=hown.1
 obtain⟨h0,hy'⟩:=iL hy
 have hlt:i.toNat<xs.length:=(qf.1 hy').1
 have hl:=mi h6.2
 simp only [yq]at hl
 have hmul:i.toNat*r.sz+r.sz<=xs.length*r.sz:=by rw [<-Nat.succ_mul];exact wq _ hlt
 obtain⟨w',hr,e1,e2,e3,e4,e5,e6⟩:=iG ti hsz Z h5 (off:=i.toNat*r.sz) (by omega)
 have hrun:(execOp a.eval ⟨none,.store U p x,ty,pos,after,g⟩).run E.P w= .ok .skip w' :=by
  simp [execOp,Y,J,Instr.storeAt,ax,Instr.sureAddr,hr]
 obtain⟨g1,g2,g3⟩:=nt (O:=O) hsat (bx (nK r n) hg b xs) (bx (nK r n) hg b (xs.set i.toNat v)) hown (fun _=>sd) (fun _=>sd) ⟨e1,e2,e3,e4.1,e4.2⟩ e6 ⟨hno,_,e5,by rw [BD];exact h6.1,wH Z h6.2 hlt⟩ hno
 exact⟨w',S,qg,hrun,g1.more fun c hc=>⟨_,lK ..,hc⟩,g2,g3⟩

section
def lk{x:α}(ti:TI E.P hg sz bytes agg z)(I: ∀S,r.rc S z x):
  EffOK E O G ⟨some d,.alloc hg,ty,pos,after,g⟩ (fun i=>bx r hg (i.h 0).2 x::O) (fun i=>tV (ax (i.h 0).2 0)):=fun a w S hs ho X V=>by
 obtain⟨zv,hzr,hzc⟩:=ti.zero w
 obtain⟨he,hs',hno⟩:=ij (w:=w) (.cells z.toArray hg (0,0)) hs
 have hrun:(execOp a.eval ⟨some d,.alloc hg,ty,pos,after,g⟩).run E.P w= .ok (.value (ax w.heap.size 0)) (w.alloc (.cells z.toArray hg (0,0))):=by
  simp [execOp,Instr.alloc,hzr,newVar,newRow,hzc,ax]
 refine⟨fun c h=>(by cases h),?_⟩
 rw [hrun]
 exact⟨_,S,oi none w.heap.size,rfl,he.more fun _ V=>V.elim,hs',re ho he (e:=bx r hg w.heap.size x) ⟨hno,z.toArray,wu w _,by simpa using I S⟩ (fun b V=>zq V.symm) V,rfl⟩
def uY{f:FuncId}{xs:List Operand}(hc:al E.P f=true)(hs:gk E.P f ts false r hg ys)(I:hG E.N G xs ts):
  EffOK E O G ⟨some d,.call ⟨.value (.func f),xs.toArray,ats⟩,ty,pos,after,g⟩ (fun i=>fi r hg (i.h 0).1 (i.h 0).2 ys::O) (fun i=>tV (aK (i.h 0).1 (i.h 0).2 ys.length)):=Iz (mm:=false) hc hs I (fun _ _ _ _ _=>rfl)
end
section
def cD{l:Option Nat}{o i:Nat}{j:Int}(X:cG E.P hg i=some (off,sz))(h0:Nat.beq sz 0=false)(hm:jJ mm r U l cap xs∈O)(hy:cQ xs j=some y)(hp:aE E.N G p (tV (jf l o)))(he:o+off=n):
  bR E O G ⟨dst,.fieldAddr hg p i,ty,pos,after,g⟩ (tV (jf l n)):=by
 subst he
 exact Bt X h0 hm hy hp
def gN(I:aE E.N G x (tV (ax b off))):bR E O G ⟨dst,.nilCheck x,ty,pos,after,g⟩ (tV (ax b off)):= .of_pure fun a w S _ _ X=>by
 have Y:a.eval x=ax b off:=I S a X
 exact⟨ax b off,by simp [execOp,Y,ax],rfl⟩
def CP(I:aE E.N G x (bw r y)):bR E O G ⟨dst,.nilCheck x,ty,pos,after,g⟩ (bw r y):= .of_pure fun a w S _ _ X=>by
 have h0:=I S a X
 obtain⟨b,off,c,U,fr,Y,J,Z⟩:=h0
 exact⟨_,by simp [execOp,Y],b,off,c,U,fr,rfl,J,Z⟩
def qO{u:Value}(ti:TI E.P U 1 bytes false z)(hm:bx rV hg b u∈O)(hp:aE E.N G p (tV (ax b 0))):
  bR E O G ⟨dst,.load U p,ty,pos,after,g⟩ (tV u):=(bf (q:=rV) (get:=fun x=>x) ti rfl rfl bN hm hp).imp fun _ _ h=>(p6.1 h).1
def jw{t:Ty}(ti:TI E.P U 1 bytes false z)(hp:aE E.N G p (bw (rT t) ())):bR E O G ⟨dst,.load U p,ty,pos,after,g⟩ t:=wO ti hp
end
def oy(h:O=O')(k:RG E ops Q rest O' G):RG E ops Q rest O G:=by subst h;exact k
def Lj{e:Exit}(h:O=O')(k:AT E Q e O' G):AT E Q e O G:=by subst h;exact k
def hW{N:Fr}{u:Value}(h:aE N G x (tV u))(ho:u.oneCell' =true):aE N G x (H rV u):=fun S a X=>p6.2 ⟨h S a X,ho⟩
def hTT{N:Fr}{t:Ty}(Y: ∀S v,t.p S v->v.oneCell' =true)(h:aE N G x t):aE N G x (H (rT t) ()):=fun S a X=>RS.2 ⟨Y _ _ (h S a X),h S a X⟩
def LS: ∀S v,(kq P args res f).p S v->v.oneCell' =true:=fun _ _ ⟨_,_,e,_⟩=>by rw [e];rfl
end

def DM{l:Option Nat}{t' e' :TypeId}(D:P.underlying t' =some (.slice e'))(h:za mm r U l cap xs w S)(hs:db xs lo (xs.length:Int)=some ys):
  ∃news,Src P r.sz t' (mJ r.sz l cap lo.toNat ys.length) ys.length news w/\qK r S news ys:=by
 obtain⟨cells,Y,J,_⟩:=h
 obtain⟨lo',m,rfl,hm,Z,h4,rfl⟩:=fa hs
 have hm' :m=xs.length:=by omega
 subst hm'
 rw [zn,tR]
 cases l with
 |none=>
  have I:xs=[]:=tX Y.1
  subst I
  exact⟨[],by simpa [mJ] using Src.ofNil w D 0,by simp [qK]⟩
 |some b=>
  obtain⟨cur,g1,g2,g3,g4,g5⟩:=Y
  have hlen:(xs.drop lo').length=xs.length-lo' :=by simp
  have hcl:=mi J
  have hsp:xs=xs.take lo' ++xs.drop lo' :=(r0 lo' xs).symm
  have htl:(xs.take lo').length=lo' :=by simp;omega
  have hr:qK r S (cells.drop (lo' *r.sz)) (xs.drop lo'):=by
   rw [hsp]at J
   have:=(oP J).2
   rwa [htl]at this
  have hmul:lo' *r.sz<=xs.length*r.sz:=wq _ Z
  refine⟨cells.drop (lo' *r.sz),?_,hr⟩
  unfold mJ
  refine Src.ofSlice w D _ _ _ _ (mi hr) (fun j u hu=>?_) (ze hr)
  by_cases hc:cap=lo'
  ·have:xs.drop lo' =[]:=Bj (by omega)
   rw [this]at hr
   have hr' :cells.drop (lo' *r.sz)=[]:=hr
   rw [hr']at hu;simp at hu
  ·simp only [hc,iB]
   rw [iA,xd g1]
   rw [tW,<-g5]at hu
   have hj:lo' *r.sz+j<xs.length*r.sz:=by
    have:=(qf.1 hu).1
    simp at this;omega
   rw [wr hj]at hu
   simpa using hu
section
variable{ty:TypeId}
def Cj{l:Option Nat}{yt:TypeId}(D:E.P.underlying t=some (.slice e))(hm:jJ mm r U l cap xs∈O)(hs:db xs lo (xs.length:Int)=some ys)(I:aE E.N G x (tV (mJ r.sz l cap lo.toNat ys.length)))(hd:Nat.blt d E.N.n=true)(k: ∀b,(b=true->ys=[])->RG E ops Q rest O ((d,H rB b)::G)):RG E ops Q (⟨some d,.binOp .eql t x (.const (.slice none 0 0)) yt,ty,pos,after,none⟩::rest) O G:= .of rfl fun a w S st=>by
 have Y:a.eval x=mJ r.sz l cap lo.toNat ys.length:=I S a st.facts
 obtain⟨⟨cells,hraw,_⟩,_⟩:=st.own.mem _ hm
 have hcn:a.eval (.const (.slice none 0 0))= .slice none 0 0:=rfl
 cases l with
 |none=>
  have hx0:xs=[]:=tX hraw.1
  have hy0:ys=[]:=by
   obtain⟨lo',m,_,_,_,_,rfl⟩:=fa hs
   subst hx0;simp
  have Z:(Op.equal t (.slice none 0 0) (.slice none 0 0)).run E.P w= .ok true w:=wD fun d=>by
   simp [Op.equalIn,jD D]
  have hrun:(execOp a.eval ⟨some d,.binOp .eql t x (.const (.slice none 0 0)) yt,ty,pos,after,none⟩).run E.P w= .ok (.value (.bool true)) w:=by
   simp [execOp,Y,mJ,hcn,eqGuard,binOp,Z]
  refine⟨fun c h=>(by cases h),?_⟩
  rw [hrun]
  exact k true (fun _=>hy0) _ _ S (st.step (gH.refl _ _ _) st.sat hd (i8.2 rfl))
 |some b=>
  obtain⟨ad,hv⟩: ∃ad,mJ r.sz (some b) cap lo.toNat ys.length= .slice (some ad) ys.length (cap-lo.toNat):=⟨_,rfl⟩
  have Z:(Op.equal t (.slice (some ad) ys.length (cap-lo.toNat)) (.slice none 0 0)).run E.P w= .ok false w:=wD fun d=>by
   simp [Op.equalIn,jD D]
  have hrun:(execOp a.eval ⟨some d,.binOp .eql t x (.const (.slice none 0 0)) yt,ty,pos,after,none⟩).run E.P w= .ok (.value (.bool false)) w:=by
   simp [execOp,Y,hv,hcn,eqGuard,binOp,Z]
  refine⟨fun c h=>(by cases h),?_⟩
  rw [hrun]
  exact k false (fun e=>(by cases e)) _ _ S (st.step (gH.refl _ _ _) st.sat hd (i8.2 rfl))
def AX{t' :TypeId}{l l2:Option Nat}{cap2:Nat}{zs us:List α}{y:Operand}(ti:TI E.P hg sz bytes agg z)(hsz:r.sz=sz)(hz:Nat.beq z.length sz=true)(h0:Nat.blt 0 sz=true)(h128:Nat.ble bytes 2048=true)(D:E.P.underlying t=some (.slice hg))(ht' :t' =t)(hd:Nat.blt d E.N.n=true)(I:aE E.N G x (tV (aK l cap n)))(hm:jJ mm r U l2 cap2 us∈fi r hg l cap xs::O)(hs:db us lo (us.length:Int)=some ys)(hy:aE E.N G y (tV (mJ r.sz l2 cap2 lo.toNat ys.length)))(happ:jp xs ys=some zs)(k: ∀l' cap',RG E ops Q rest (fi r hg l' cap' zs::O) ((d,tV (aK l' cap' zs.length))::G))(hn:n=xs.length:=by rfl):
  RG E ops Q (⟨some d,.call ⟨.builtin .append,#[x,y],#[t,t']⟩,ty,pos,after,none⟩::rest) (fi r hg l cap xs::O) G:=by
 subst ht'
 exact wl (u:=fun cap' l' =>tV (aK l' cap' zs.length)) ti hsz hz h0 h128 D hd I (fun a w S st=>by
  have Y:a.eval y=mJ r.sz l2 cap2 lo.toNat ys.length:=hy S a st.facts
  rw [Y]
  exact DM D (st.own.mem _ hm).1 hs) happ (fun _ _ _ _ _=>rfl) k hn
end

abbrev I9(α hf:Type):=(σ:Type)->(α->σ->Option (Bool×σ))->σ->Option (σ×hf)
def HO(P:Program){α hf:Type}(args:α->List Ty)(it:I9 α hf)(Ob:hf->OI->List OE)(fid:FuncId)(cap:Array Value)(fp:Nat->Prop)(w:World)(S:SH):Prop:=
 ∀(σ:Type) (y:α->σ->Option (Bool×σ)) (s:σ) (R:σ×hf),it σ y s=some R-> ∀hx yv,RL P args y hx yv-> ∀e,hx s e->e.p w S->(∀k,e.fp k-> ¬fp k)->
  Calls P fid (#[yv]++cap) w fun en w' => ∃e' S' j,(∃v,en= .returned v)/\hx R.1 e' /\gH (fun k=>e.fp k\/fp k) w S w' S' /\jo w' S' /\e'.p w' S' /\cZ 0 oT w' S' (Ob R.2 j)/\(∀k,e'.fp k\/wY (Ob R.2 j) k->(e.fp k\/fp k)\/w.heap.size<=k)/\ ∀k,e'.fp k-> ¬wY (Ob R.2 j) k
def Ge(P:Program){α hf:Type}(args:α->List Ty)(it:I9 α hf)(Ob:hf->OI->List OE)(v:Value)(fp:Nat->Prop):OE where
 fp:=fp
 p:=fun w S=>(∀k,fp k->k<w.heap.size)/\ ∃fid cap,v= .func (.func fid) #[] cap/\al P fid=true/\
  ∀C w' S',gH C w S w' S' ->(∀k,fp k-> ¬C k)->jo w' S' ->HO P args it Ob fid cap fp w' S'
 here:=fun h k hk=>h.1 k hk
 kept:=by
  rintro C w w' S S' ⟨Y,fid,cap,J,Z,h4⟩ k hC
  refine⟨fun b V=>tU (Y b V) k.size,fid,cap,J,Z,fun C' w'' S'' k' hC' hs=>?_⟩;exact h4 (fun b=>C b\/C' b) w'' S'' ((k.more fun b V=> .inl V).trans (k'.more fun b V=> .inr V)) (fun b V h=>h.elim (hC b V) (hC' b V)) hs
section
variable{it:It α}
end

def xl(P:Program)(fid:FuncId){α hf:Type}(args:α->List Ty)(it:I9 α hf)(Ob:hf->OI->List OE)(O:List OE)(cts:List Ty):Prop:=
 ∀w S cap,jo w S->cZ 0 oT w S O->tM S cts cap->HO P args it Ob fid cap.toArray (wY O) w S
def KN(E:En){σ hf:Type}(hx:σ->OE->Prop)(R:σ×hf)(Ob:hf->OI->List OE):Ending->World->Prop:=fun en w' => ∃e' S' j,(∃v,en= .returned v)/\hx R.1 e' /\gH E.B E.w0 E.S0 w' S' /\jo w' S' /\e'.p w' S' /\cZ 0 oT w' S' (Ob R.2 j)/\(∀k,e'.fp k\/wY (Ob R.2 j) k->E.B k\/E.w0.heap.size<=k)/\ ∀k,e'.fp k-> ¬wY (Ob R.2 j) k
variable{B:Nat->Prop}{hf:Type}{Ob:hf->OI->List OE}{S0:SH}{fn:Func}{w0:World}
def xl.of{f:FuncId}{it:I9 α hf}{cts:List Ty}(X:P.funcs[f]? =some fn)(V:fn.body=some c)(hN:fn.ntmps=N)(hn:Nat.ble (cts.length+1) N=true)(h: ∀(σ:Type) (y:α->σ->Option (Bool×σ)) (s:σ) (R:σ×hf),it σ y s=some R-> ∀hx yv,RL P args y hx yv-> ∀e,hx s e-> ∀w0 S0 B,(∀k,B k->e.fp k\/ ∃f∈O,f.fp k)->
   CG ⟨P,⟨N,[]⟩,B,w0,S0,none⟩ (bodyPost P fn (KN ⟨P,⟨N,[]⟩,B,w0,S0,none⟩ hx R Ob)) c (e::O) (sy 0 (tV yv::cts))):xl P f args it Ob O cts:=by
 subst hN
 intro w S cap hs ho hc σ y s R hit hx yv hy e he hep hap
 have hown:cZ w.heap.size (fun k=>e.fp k\/ ∃f∈O,f.fp k) w S (e::O):=
  ⟨⟨hep,fun k hk=> .inr (.inl hk)⟩,fun f X b V hfb=>hap b V ⟨f,X,hfb⟩,mB ho fun f X k hk=> .inr (.inr ⟨f,X,hk⟩)⟩
 have hfacts:=oX (S:=S) (ts:=tV yv::cts) (vs:=yv::cap) ⟨rfl,hc⟩ fn.ntmps (by simpa using po hn)
 have:=ma.1 (callsIn_of_wp (F:=fw none) (n:=0) X V trivial (h σ y s R hit hx yv hy e he w S (fun k=>e.fp k\/ ∃f∈O,f.fp k) (fun _ h=>h) _ w S ⟨gH.refl _ _ _,hs,hown,hfacts⟩))
 rw [show(#[yv]++cap.toArray:Array Value)=(yv::cap).toArray from by simp]
 exact this.mono fun en w' ⟨e',S',j,Y,J,Z,h4,h5,h6,h7,h8⟩=>⟨e',S',j,Y,J,Z,h4,h5,h6,h7,h8⟩
def Fm{σ:Type}{hx:σ->OE->Prop}{R:σ×hf}{e:OE}(hr:fn.results= #[])(he:hx R.1 e)(j:OI)(hO:O=Ob R.2 j):
  AT ⟨P,⟨N,[]⟩,B,w0,S0,none⟩ (bodyPost P fn (KN ⟨P,⟨N,[]⟩,B,w0,S0,none⟩ hx R Ob)) .ret (e::O) G:=fun _ _ S st=>by
 subst hO
 refine⟨st.facts.defers,_,xE P fn hr _ _,e,S,j,⟨_,rfl⟩,he,st.ext,st.sat,st.own.1.1,st.own.2.2.weak,fun k hk=>?_,fun k hk ⟨f,X,hfk⟩=>st.own.2.1 f X k hk hfk⟩
 rcases hk with hk|⟨f,X,hk⟩
 ·exact(st.own.1.2 k hk).symm
 ·exact((cZ.mem st.own.2.2 f X).2 k hk).symm
def I3{σ:Type}{hx:σ->OE->Prop}{R:σ×hf}{e:OE}(hr:fn.results= #[])(he:hx R.1 e)(j:OI)(hO:O=Ob R.2 j):
  AT ⟨P,⟨N,[]⟩,B,w0,S0,none⟩ (bodyPost P fn (KN ⟨P,⟨N,[]⟩,B,w0,S0,none⟩ hx R Ob)) .normal (e::O) G:=fun a w S st=>Fm hr he j hO a w S st
def xh(P:Program)(f:FuncId)(ts:List Ty)(O1:List OE){α hf:Type}(args:α->List Ty)(it:I9 α hf)(Ob:hf->OI->List OE):Prop:=
 ∀w S vs,jo w S->tM S ts vs->cZ 0 oT w S O1->Calls P f vs.toArray w fun e w' => ∃v fp S',e= .returned v/\gH (wY O1) w S w' S' /\jo w' S' /\(Ge P args it Ob v fp).p w' S' /\ ∀k,fp k->wY O1 k\/w.heap.size<=k
def KM(E:En)(O1:List OE){α hf:Type}(args:α->List Ty)(it:I9 α hf)(Ob:hf->OI->List OE):Ending->World->Prop:=fun e w' => ∃v fp S',e= .returned v/\gH E.B E.w0 E.S0 w' S' /\jo w' S' /\(Ge E.P args it Ob v fp).p w' S' /\ ∀k,fp k->wY O1 k\/E.w0.heap.size<=k
variable{O1:List OE}
def xh.of{f:FuncId}{it:I9 α hf}(X:P.funcs[f]? =some fn)(V:fn.body=some c)(hN:fn.ntmps=N)(hn:Nat.ble ts.length N=true)(h: ∀w0 S0,CG ⟨P,⟨N,[]⟩,wY O1,w0,S0,none⟩ (bodyPost P fn (KM ⟨P,⟨N,[]⟩,wY O1,w0,S0,none⟩ O1 args it Ob)) c O1 (sy 0 ts)):xh P f ts O1 args it Ob:=by
 subst hN
 intro w S vs hs hv ho
 exact ma.1 (callsIn_of_wp (F:=fw none) (n:=0) X V trivial (h w S _ w S ⟨gH.refl _ _ _,hs,mB ho fun f X k hk=> .inr ⟨f,X,hk⟩,oX hv _ (po hn)⟩))
variable{fp:Nat->Prop}
def I2{k:Nat}{it:I9 α hf}(hr:fn.results= #[.tmp k])(hk:bJ G k=some (tV v)):
  AT ⟨P,⟨N,[]⟩,wY O1,w0,S0,none⟩ (bodyPost P fn (KM ⟨P,⟨N,[]⟩,wY O1,w0,S0,none⟩ O1 args it Ob)) .ret (Ge P args it Ob v fp::O) G:=fun a w S st=>by
 have hv:a.tmps.getD k undef=v:=st.facts.at_ k _ hk
 exact⟨st.facts.defers,_,m4 P fn k hr _ _,v,fp,S,by rw [hv],st.ext,st.sat,st.own.1.1,fun k hk=>(st.own.1.2 k hk).symm⟩
section
variable{ty:TypeId}
def GO{f:FuncId}{xs:List Operand}(O1 Or:List OE){it:I9 α hf}(hO:O=O1++Or)(hc:al E.P f=true)(hs:xh E.P f ts O1 args it Ob)(I:hG E.N G xs ts)(hd:Nat.blt d E.N.n=true)(k: ∀v fp,RG E ops Q rest (Ge E.P args it Ob v fp::Or) ((d,tV v)::G)):
  RG E ops Q (⟨some d,.call ⟨.value (.func f),xs.toArray,ats⟩,ty,pos,after,none⟩::rest) O G:= .of rfl fun a w S st=>by
 subst hO
 have hr:(execOp a.eval ⟨some d,.call ⟨.value (.func f),xs.toArray,ats⟩,ty,pos,after,none⟩).run E.P w= .ok (.enter f (xs.map a.eval).toArray) w:=by
  simp [execOp,resolve,Act.eval,Deferred.ofValue,invoke,fj hc]
 refine⟨fun c h=>(by cases h),?_⟩
 rw [hr]
 refine(hs w S _ st.sat (I.tys st.facts) (mA st.own).1.weak).mono fun e w' ⟨v,fp,S',he,Y,J,Z,h4⟩=>⟨_,he,?_⟩
 have st' :=st.turn (O2:=[Ge E.P args it Ob v fp]) Y J ⟨⟨Z,fun _ _=> .inl (mC _)⟩,fun _ h=>(by cases h),trivial⟩ (fun k ⟨f,X,hk⟩=>by
  rw [jL.1 X]at hk;exact h4 k hk)
 exact k v fp _ _ S' (st'.put hd rfl)
def Dm{fid:FuncId}{O2:List OE}{it:I9 α hf}{cts:List Ty}{caps:List Operand}(hO:O=O1++O2)(hc:al E.P fid=true)(hs:xl E.P fid args it Ob O1 cts)(hcap:hG E.N G caps cts)(hd:Nat.blt d E.N.n=true)(k: ∀v fp,RG E ops Q rest (Ge E.P args it Ob v fp::O2) ((d,tV v)::G)):
  RG E ops Q (⟨some d,.makeFunc (.func fid) #[] caps.toArray,ty,pos,after,none⟩::rest) O G:= .of rfl fun a w S st=>by
 subst hO
 have hr:(execOp a.eval ⟨some d,.makeFunc (.func fid) #[] caps.toArray,ty,pos,after,none⟩).run E.P w= .ok (.value (.func (.func fid) #[] (caps.map a.eval).toArray)) w:=by simp [execOp,Instr.makeFunc]
 refine⟨fun c h=>(by cases h),?_⟩
 rw [hr]
 obtain⟨Y,J,Z⟩:=mA st.own
 have hcv:=hcap.tys st.facts
 refine k (.func (.func fid) #[] (caps.map a.eval).toArray) (wY O1) _ _ S ⟨st.ext,st.sat,?_,st.facts.put hd rfl⟩;refine cZ.cons ⟨⟨fun b ⟨f,X,V⟩=>f.here (cZ.mem Y f X).1 b V,fid,_,rfl,hc,fun C w' S' he hC hs' =>?_⟩,fun b ⟨f,X,V⟩=>(cZ.mem Y f X).2 b V⟩ (fun f X b ⟨g,T,V⟩=>Z g T f X b V) J;exact hs w' S' _ hs' (Y.weak.ext he fun f X b V=>hC b ⟨f,X,V⟩) (hcv.mono he.keep)
end

def qI(l:Nat)(r:Loop)(st:LoopState)(pd:Option Code):OE where
 fp:=fun k=>k=l
 p:=fun w S=>S l=none/\w.heap[l]? =some (.loop {r with state:=st,pending:=pd})
 here:=by
  intro w S h k hk
  subst hk
  exact(vx.1 h.2).1
 kept:=by
  intro C w w' S S' h k hC
  have hlt:=(vx.1 h.2).1
  exact⟨by rw [k.old l hlt (hC l rfl)];exact h.1,by rw [k.heap l hlt (hC l rfl)];exact h.2⟩
def Ny(j:Option Nat):LoopState:=if j.isNone then .ready else .done
def LM(E:En)(l:Nat)(rec:Loop){σ ι:Type}(Oi:ι->List OE)(dat:ι->σ)(jc:Nat->Code)(r:Option Nat×σ):Ending->World->Prop:=fun en w' =>
 ∃i S',en= .returned (.bool r.1.isNone)/\dat i=r.2/\gH E.B E.w0 E.S0 w' S' /\jo w' S' /\cZ E.base E.B w' S' (qI l rec (Ny r.1) (r.1.map jc)::Oi i)
def xe{α σ:Type}(f:α->σ->Option (Option Nat×σ)):α->Option Nat×σ->Option (Bool×(Option Nat×σ)):=fun x s=>
 match s.1 with
 |some _=>none
 |none=>(f x s.2).map fun r=>(r.1.isNone,r)
variable{base:Nat}{rec:Loop}{ι:Type}
section
def wL{l:Nat}{st st' :LoopState}{pd pd' :Option Code}{O:List OE}(h:cZ base B w S (qI l rec st pd::O))(hs:jo w S):
  gH (fun k=>k=l) w S (w.putObj l (.loop {rec with state:=st',pending:=pd' })) S/\jo (w.putObj l (.loop {rec with state:=st',pending:=pd' })) S/\cZ base B (w.putObj l (.loop {rec with state:=st',pending:=pd' })) S (qI l rec st' pd' ::O):=by
 obtain⟨hno,hl⟩:=h.1.1
 have hlt:=(vx.1 hl).1
 have hext:gH (fun k=>k=l) w S (w.putObj l (.loop {rec with state:=st',pending:=pd' })) S:=⟨rfl,rfl,rfl,iQ _,by simp,fun k _ hk=>World.putObj_heap_other hk,SH.le_refl _,fun _ _ _=>rfl⟩
 refine⟨hext,hs.same fun k o hk=>?_,⟨⟨hno,World.putObj_heap_same hlt⟩,h.1.2⟩,h.2.1,h.2.2.ext hext fun g T k hk hkl=>h.2.1 g T k hkl hk⟩
 have hne:k≠l:=fun e=>by subst e;rw [hno]at hk;cases hk
 exact World.putObj_heap_other hne
def I4{l:Nat}{body:Code}{R:Ending->World->Prop}(h:CG E (roundPost E.P l R) body (qI l rec .busy none::O) G):AT E (Rx E l body R) .normal (qI l rec .ready none::O) G:=fun a w S st=>by
 obtain⟨Y,J,Z⟩:=wL (st' := .busy) (pd' :=none) st.own st.sat
 obtain⟨_,hl⟩:=st.own.1.1
 exact⟨_,run_beginRound hl rfl,h a _ S ⟨st.ext.step Y (fun c hc=>st.own.1.2 c hc),J,Z,st.facts⟩⟩
def Du{l:Nat}{σ:Type}{Oi:ι->List OE}{dat:ι->σ}{jc:Nat->Code}{s2:σ}(i:ι)(hi:dat i=s2)(hO:O=Oi i):AT E (roundPost E.P l (LM E l rec Oi dat jc (none,s2))) .normal (qI l rec .busy none::O) G:=fun a w S st=>by
 subst hO
 obtain⟨Y,J,Z⟩:=wL (st' := .ready) (pd' :=none) st.own st.sat
 obtain⟨_,hl⟩:=st.own.1.1
 exact⟨_,_,run_endRound none hl,i,S,rfl,hi,st.ext.step Y (fun c hc=>st.own.1.2 c hc),J,Z⟩
def Dt{l:Nat}{σ:Type}{Oi:ι->List OE}{dat:ι->σ}{jc:Nat->Code}{s2:σ}(q:Nat)(hq:jc q= .ret)(i:ι)(hi:dat i=s2)(hO:O=Oi i):AT E (roundPost E.P l (LM E l rec Oi dat jc (some q,s2))) .ret (qI l rec .busy none::O) G:=fun a w S st=>by
 subst hO
 obtain⟨Y,J,Z⟩:=wL (st' := .done) (pd' :=some .ret) st.own st.sat
 obtain⟨_,hl⟩:=st.own.1.1
 exact⟨_,_,run_endRound (some .ret) hl,i,S,rfl,hi,st.ext.step Y (fun c hc=>st.own.1.2 c hc),J,by rw [yn,hq];exact Z⟩
def IY{it:I9 α hf}{σ:Type}(Oi:ι->List OE)(dat:ι->σ)(jc:Nat->Code){f:α->σ->Option (Option Nat×σ)}{R:(Option Nat×σ)×hf}{g:Operand}{ps:List Nat}{assign body:Code}(hr:E.r=none)(T:aE E.N G g (tV v))(i0:ι)(hO:O=Ge E.P args it Ob v fp::Oi i0)(hit:it (Option Nat×σ) (xe f) (none,dat i0)=some R)(hps: ∀x,ps.length=(args x).length)(hpn:(ps.all fun d=>Nat.blt d E.N.n)=true)(hbody: ∀(i:ι) (x:α) (r:Option Nat×σ),f x (dat i)=some r-> ∀(l:Nat) (rec:Loop) (w1:World) (S1:SH) (B1:Nat->Prop),
   CG ⟨E.P,⟨E.N.n,[]⟩,B1,w1,S1,some l⟩ (Rx ⟨E.P,⟨E.N.n,[]⟩,B1,w1,S1,some l⟩ l body (LM ⟨E.P,⟨E.N.n,[]⟩,B1,w1,S1,some l⟩ l rec Oi dat jc r)) assign (qI l rec .ready none::Oi i) (D2 ps (args x) G))(k: ∀i' j,dat i' =R.1.2-> ∀b,(R.1.1=none->AT ⟨E.P,⟨E.N.n,yK b::E.N.ds⟩,E.B,E.w0,E.S0,E.r⟩ Q .normal (Gx b::(Ob R.2 j++Oi i')) G)/\
   (∀q,R.1.1=some q->CG ⟨E.P,⟨E.N.n,yK b::E.N.ds⟩,E.B,E.w0,E.S0,E.r⟩ Q (jc q) (Gx b::(Ob R.2 j++Oi i')) G)):CG E Q (.rangeFunc g ps.toArray assign body) O G:=fun a w S st=>by
 subst hO
 refine wpIn_rangeFunc fun fn _=>?_
 have hr0:(fw E.r).round=none:=hr
 have hfw:fw E.r=fw none:=by rw [hr]
 rw [hr0]
 obtain⟨rec,hrec⟩: ∃rec:Loop,rec={state:= .ready,pending:=none,fn,tmps:=a.tmps,params:=ps.toArray,assign,body,defers:=w.heap.size}:=⟨_,rfl⟩
 obtain⟨x1,x2,x3⟩:=ij (w:=w) (.deferred (some [])) st.sat
 obtain⟨y1,y2,y3⟩:=ij (w:=w.alloc (.deferred (some []))) (.loop rec) x2
 obtain⟨W1,hW1⟩: ∃W1,(w.alloc (.deferred (some []))).alloc (.loop rec)=W1:=⟨_,rfl⟩
 rw [hW1]at y1 y2
 have hsz:(w.alloc (.deferred (some []))).heap.size=w.heap.size+1:=by simp
 rw [hsz]at y3
 have hext:gH oT w S W1 S:=x1.trans y1
 have hL1:W1.heap[w.heap.size+1]? =some (.loop rec):=by
  rw [<-hW1];have:=World.alloc_heap_new (w.alloc (.deferred (some []))) (.loop rec);rwa [hsz]at this
 have hK1:W1.heap[w.heap.size]? =some (.deferred (some [])):=by
  rw [y1.heap w.heap.size (by omega) (fun h=>h)];exact World.alloc_heap_new w _
 have hW1s:W1.heap.size=w.heap.size+2:=by rw [<-hW1];simp
 have hg' :a.eval g=v:=T S a st.facts
 obtain⟨hit1,hap,hoi⟩:=st.own
 obtain⟨⟨hfp,gf,cap,hv,hcal,hcall⟩,hbase⟩:=hit1
 have hbl:=st.base_le
 have hoi1:cZ E.base E.B W1 S (Oi i0):=hoi.ext0 hext
 have hlt: ∀f∈Oi i0,∀k,f.fp k->k<w.heap.size:=fun f X k hk=>f.here (cZ.mem hoi f X).1 k hk
 refine⟨w.heap.size+1,[yK w.heap.size],W1,{target:= .fn (.func gf) cap,args:= #[.func (.yield (w.heap.size+1)) #[] #[]]},W1,gf,
  #[.func (.yield (w.heap.size+1)) #[] #[]]++cap,W1,?_,?_,fun _ _=>trivial,?_,fun h=>(by cases h),?_⟩
 ·rw [<-hW1,hrec];exact run_enterLoop_outer _ _ _ _ _
 ·simp only [resolve,hg',hv]
  simp [go_sem]
 ·simp [invoke,go_sem,fj hcal]
 rw [hfw]
 refine ma.2 ?_
 have hyld:RL E.P args (xe f) (fun s e=> ∃i,dat i=s.2/\e=vg S (qI (w.heap.size+1) rec (Ny s.1) (s.1.map jc)::Oi i)) (.func (.yield (w.heap.size+1)) #[] #[]):=by
  refine⟨_,rfl,?_⟩
  rintro x ⟨j0,s⟩ r hy e ⟨i,hi,rfl⟩ w2 S2 vs hs2 ⟨hle,hown⟩ hvs
  cases j0 with
  |some q=>unfold xe at hy;cases hy
  |none=>
  have hi' :dat i=s:=hi
  subst hi'
  obtain⟨r2,hs2',rfl⟩: ∃r2,f x (dat i)=some r2/\r=(r2.1.isNone,r2):=by
   unfold xe at hy
   cases X:f x (dat i)with
   |none=>simp only [X]at hy;cases hy
   |some s2=>simp only [X]at hy;exact⟨s2,rfl,by simpa using hy.symm⟩
  have hl2:=hown.1.1.2
  have hvl:=hvs.length
  have hyr:=run_yield (P:=E.P) (args:=vs.toArray) hl2 (by rw [hrec];simp [hps x,hvl])
  refine⟨_,_,_,_,hyr,roundIn_of_wpIn trivial ?_⟩
  have hown' :cZ 0 oT w2 S2 (qI (w.heap.size+1) rec .ready none::Oi i):=hown
  have:=hbody i x r2 hs2' (w.heap.size+1) rec w2 S2 (fun k=> ∃f∈qI (w.heap.size+1) rec .ready none::Oi i,f.fp k)
   {tmps:=(ps.zip vs).foldl (fun t (p:Nat×Value)=>t.setIfInBounds p.1 p.2) a.tmps,defers:=[]} w2 S2
   ⟨gH.refl _ _ _,hs2,mB hown' fun f X k hk=> .inr ⟨f,X,hk⟩,AF ps (args x) vs ⟨a.tmps,[]⟩ G (hps x) hvs hpn ⟨st.facts.size,rfl,fun j t h=>t.mono hle (st.facts.at_ j t h)⟩⟩
  rw [hrec]
  rw [hrec]at this
  rw [y7]
  refine wpIn_mono this ?_
  intro e a3 w3 hp
  cases e with
  |normal=>
   obtain⟨w4,hb4,hp4⟩:=hp
   refine⟨w4,hb4,wpIn_mono hp4 ?_⟩
   have hR: ∀en w',LM ⟨E.P,⟨E.N.n,[]⟩,fun k=> ∃f∈qI (w.heap.size+1) rec .ready none::Oi i,f.fp k,w2,S2,some (w.heap.size+1)⟩ (w.heap.size+1) rec Oi dat jc r2 en w' ->
     ∃e' S',en= .returned (.bool r2.1.isNone)/\(∃i',dat i' =r2.2/\e' =vg S (qI (w.heap.size+1) rec (Ny r2.1) (r2.1.map jc)::Oi i'))/\gH (vg S (qI (w.heap.size+1) rec .ready none::Oi i)).fp w2 S2 w' S' /\jo w' S' /\e'.p w' S' /\ ∀k,e'.fp k->(vg S (qI (w.heap.size+1) rec .ready none::Oi i)).fp k\/w2.heap.size<=k:=by
    rintro en w' ⟨i',S',Y,J,Z,h4,h5⟩
    exact⟨_,S',Y,⟨i',J,rfl⟩,Z,h4,⟨SH.le_trans hle Z.keep,h5.weak⟩,fun k ⟨f,X,hk⟩=>((cZ.mem h5 f X).2 k hk).symm⟩
   rw [hrec]at hR
   intro e5 a5 w5 hp5
   cases e5<;>simp only [roundPost]at hp5 ⊢
   case normal=>obtain⟨v5,w6,Y,J⟩:=hp5;exact⟨v5,w6,Y,hR _ _ J⟩
   case ret=>obtain⟨v5,w6,Y,J⟩:=hp5;exact⟨v5,w6,Y,hR _ _ J⟩
   case exit=>obtain⟨v5,w6,Y,J⟩:=hp5;exact⟨v5,w6,Y,hR _ _ J⟩
   case goto=>obtain⟨v5,w6,Y,J⟩:=hp5;exact⟨v5,w6,Y,hR _ _ J⟩
  |_=>exact hp
 have hrecE:W1.heap[w.heap.size+1]? =some (.loop {rec with state:= .ready,pending:=none}):=by rw [hL1,hrec]
 have he0:(vg S (qI (w.heap.size+1) rec .ready none::Oi i0)).p W1 S:=⟨SH.le_refl _,⟨⟨y3,hrecE⟩,fun _ _=> .inl (mC _)⟩,fun f X k hk hfk=>by have:=hlt f X k hfk;have hk' :k=w.heap.size+1:=hk;omega,hoi1.weak⟩
 have hap0: ∀k,(vg S (qI (w.heap.size+1) rec .ready none::Oi i0)).fp k-> ¬fp k:=by
  rintro k ⟨f,X,hk⟩ hfk
  rcases fT.1 X with rfl|X
  ·have:=hfp k hfk;have hk' :k=w.heap.size+1:=hk;omega
  ·exact hap f X k hfk hk
 refine(hcall oT W1 S hext (fun _ _ h=>h) y2 _ (xe f) (none,dat i0) R hit _ _ hyld _ ⟨i0,rfl,rfl⟩ he0 hap0).mono ?_
 rintro en w2 ⟨e',S2,j,⟨vr,rfl⟩,⟨i',hi',rfl⟩,hx2,hs2,⟨hle2,hown2⟩,hob,hnew,hapo⟩
 have hl2:=hown2.1.1.2
 have hnb: ∀k,(Gx w.heap.size).fp k-> ¬((vg S (qI (w.heap.size+1) rec .ready none::Oi i0)).fp k\/fp k):=by
  rintro k hk h
  have hk' :k=w.heap.size:=hk
  subst hk'
  rcases h with⟨f,X,hfk⟩|h
  ·rcases fT.1 X with rfl|X
   ·have hk' :w.heap.size=w.heap.size+1:=hfk;omega
   ·have:=hlt f X _ hfk;omega
  ·have:=hfp _ h;omega
 have hBin: ∀k,((vg S (qI (w.heap.size+1) rec .ready none::Oi i0)).fp k\/fp k)->E.w0.heap.size<=k\/E.B k:=by
  rintro k (⟨f,X,hk⟩|h)
  ·rcases fT.1 X with rfl|X
   ·left;have hk' :k=w.heap.size+1:=hk;have:E.w0.heap.size<=w.heap.size:=hbl;omega
   ·exact(cZ.mem hoi f X).2 k hk
  ·exact hbase k h
 have hBn: ∀k,((vg S (qI (w.heap.size+1) rec (Ny R.1.1) (R.1.1.map jc)::Oi i')).fp k\/wY (Ob R.2 j) k)->E.base<=k\/E.B k:=fun k hk=>(hnew k hk).elim (hBin k) (fun h=> .inl (by have Y:E.base<=w.heap.size:=hbl;have J:W1.heap.size<=k:=h;omega))
 have hb2:cZ E.base E.B w2 S2 (qI (w.heap.size+1) rec (Ny R.1.1) (R.1.1.map jc)::(Ob R.2 j++Oi i')):=by
  obtain⟨q1,q2,q3⟩:=hown2
  refine cZ.cons ⟨q1.1,fun k hk=>hBn k (.inl ⟨_,lK ..,hk⟩)⟩ (fun f X=>?_) (xk (mB hob fun f X k hk=>hBn k (.inr ⟨f,X,hk⟩)) (mB q3 fun f X k hk=>hBn k (.inl ⟨f,mZ _ X,hk⟩)) fun e he f X k hek hfk=>hapo k ⟨f,mZ _ X,hfk⟩ ⟨e,he,hek⟩)
  rcases pY.1 X with X|X
  ·exact fun k hk hfk=>hapo k ⟨_,lK ..,hk⟩ ⟨f,X,hfk⟩
  ·exact q2 f X
 have hend:Ny R.1.1≠ .busy:=by unfold Ny;split<;>simp
 obtain⟨z1,z2,z3⟩:=wL (st' := .exhausted) (pd' :=R.1.1.map jc) hb2 hs2
 have hdf:(Gx w.heap.size).p W1 S:=⟨x3,hK1⟩
 have RJ:(Gx w.heap.size).p w2 S2:=(Gx w.heap.size).kept hdf hx2 hnb
 have hd3:=(Gx w.heap.size).kept RJ z1 (fun k hk hkl=>by have Y:k=w.heap.size:=hk;have J:k=w.heap.size+1:=hkl;omega)
 have stE:St ⟨E.P,⟨E.N.n,yK w.heap.size::E.N.ds⟩,E.B,E.w0,E.S0,E.r⟩ (Gx w.heap.size::(Ob R.2 j++Oi i')) G {a with defers:=[yK w.heap.size]++a.defers} (w2.putObj (w.heap.size+1) (.loop {rec with state:= .exhausted,pending:=R.1.1.map jc})) S2:=by
  refine⟨((st.ext.step0 hext).step hx2 hBin).step z1 (fun c hc=>z3.1.2 c hc),z2,?_,?_⟩
  ·refine cZ.cons ⟨hd3,fun k hk=> .inl (by have Y:k=w.heap.size:=hk;rw [Y];exact hbl)⟩ (fun f X k hk hfk=>?_) z3.2.2
   have Y:k=w.heap.size:=hk
   have J:((vg S (qI (w.heap.size+1) rec (Ny R.1.1) (R.1.1.map jc)::Oi i')).fp k\/wY (Ob R.2 j) k):=by
    rcases pY.1 X with X|X
    ·exact .inr ⟨f,X,hfk⟩
    ·exact .inl ⟨f,mZ _ X,hfk⟩
   rcases hnew k J with h|h
   ·exact hnb k hk h
   ·omega
  ·refine⟨st.facts.size,?_,fun j t hj=>t.mono (SH.le_trans (SH.le_refl S) hle2) (st.facts.at_ j t hj)⟩
   show yK w.heap.size::a.defers=_
   rw [st.facts.defers]
 obtain⟨k1,k2⟩:=k i' j hi' w.heap.size
 refine⟨_,_,run_endLoop hl2 hend,?_⟩
 cases hR1:R.1.1 with
 |none=>
  rw [hR1]at stE
  exact k1 hR1 _ _ S2 stE
 |some q=>
  rw [hR1]at stE
  have:=k2 q hR1 _ _ S2 stE
  show(jc q).wpIn (fw none) 0 E.P Q _ _
  have hE:fw (⟨E.P,⟨E.N.n,yK w.heap.size::E.N.ds⟩,E.B,E.w0,E.S0,E.r⟩:En).r=fw none:=hfw
  rw [hE]at this
  exact this
end

def Oy(l:List (Option Nat×Nat)):OI:={h:=fun n=>l.getD n (none,0)}
def ju(P:Program){A hf ρ:Type}(args:A->List Ty)(Ob:hf->OI->List OE)(res:ρ->Ty)(f:hf->A->Option (ρ×hf)):Ty where
 p:=fun S v=> ∀x y R,f x y=some R-> ∃fid fst cap,v= .func (.func fid) fst cap/\al P fid=true/\ ∀i w S' vs,SH.le S S' ->jo w S' ->tM S' (args y) vs->cZ 0 oT w S' (Ob x i)->
  Calls P fid (fst++vs.toArray++cap) w fun en w' => ∃j v S'',en= .returned v/\(res R.1).p S'' v/\gH (wY (Ob x i)) w S' w' S'' /\jo w' S'' /\cZ 0 oT w' S'' (Ob R.2 j)/\ ∀k,wY (Ob R.2 j) k->wY (Ob x i) k\/w.heap.size<=k
 mono:=fun h k x y R X=>by
  obtain⟨fid,fst,cap,e,hc,hs⟩:=k x y R X
  exact⟨fid,fst,cap,e,hc,fun i w S' vs hle=>hs i w S' vs (SH.le_trans h hle)⟩
variable{A ρ:Type}
def H1{args:A->List Ty}{res:ρ->Ty}:(ju P args Ob res (fun _ _=>none)).p S v:=fun _ _ _ h=>by cases h
section
section
variable{ty:TypeId}
def pC{args:A->List Ty}{res:ρ->Ty}{f:hf->A->Option (ρ×hf)}{fid:FuncId}(hc:al E.P fid=true)(hp:aE E.N G p (tV (ax b 0)))(hs: ∀x y R,f x y=some R-> ∀i,fg E.P fid (tV (ax b 0)::args y) (Ob x i) (fun _:OI=>res R.1) (fun j=>Ob R.2 j)):
  bR E O G ⟨dst,.makeFunc (.func fid) #[p] #[],ty,pos,after,g⟩ (ju E.P args Ob res f):= .of_pure fun a w S _ _ X=>by
 have Y:a.eval p=ax b 0:=hp S a X
 refine⟨.func (.func fid) #[ax b 0] #[],by simp [execOp,Instr.makeFunc,Y],fun x y R hR=>⟨fid,#[ax b 0],#[],rfl,hc,fun i w' S' vs _ hsat hv ho=>?_⟩⟩
 have:=hs x y R hR i w' S' (ax b 0::vs) hsat ⟨rfl,hv⟩ ho
 rw [show(#[ax b 0]++vs.toArray++ #[]:Array Value)=(ax b 0::vs).toArray from by simp]
 exact this
end
def Da{args:A->List Ty}{res:ρ->Ty}{f:hf->A->Option (ρ×hf)}{x:hf}{y:A}{R:ρ×hf}{i:OI}{ty:TypeId}{fo:Operand}{xs:List Operand}(Or:List OE)(hO:O=Ob x i++Or)(X:aE E.N G fo (ju E.P args Ob res f))(hR:f x y=some R)(I:hG E.N G xs (args y))(hpost: ∀j,Ob R.2 j++Or=post j):
  EffOK E O G ⟨some d,.call ⟨.value fo,xs.toArray,ats⟩,ty,pos,after,g⟩ post (fun _=>res R.1):=fun a w S hsat ho hF V=>by
 subst hO
 obtain rfl:(fun j=>Ob R.2 j++Or)=post:=funext hpost
 obtain⟨fid,fst,cap,e,hc,hs⟩:=X S a hF x y R hR
 have hr:(execOp a.eval ⟨some d,.call ⟨.value fo,xs.toArray,ats⟩,ty,pos,after,g⟩).run E.P w= .ok (.enter fid (fst++(xs.map a.eval).toArray++cap)) w:=by
  simp [execOp,resolve,e,Deferred.ofValue,invoke,fj hc]
 refine⟨fun c h=>(by cases h),?_⟩
 rw [hr]
 exact(hs i w S _ (SH.le_refl _) hsat (I.tys hF) (mA ho).1.weak).mono fun en w' ⟨j,v,S',he,hv,Y,J,Z,h4⟩=>⟨_,he,v,S',j,rfl,Y.more fun b ⟨f,X,V⟩=>⟨f,BH _ X,V⟩,J,cZ.turn ho V Y Z h4,hv⟩
def ny{f:FuncId}{t:Ty}{Ob:OI->List OE}{i:OI}(h:fg P f ts O1 (fun _:OI=>t) (fun _=>Ob i)):fg P f ts O1 (fun _:OI=>t) Ob:=fun w S vs hs hv ho=>
 (h w S vs hs hv ho).mono fun _ _ ⟨_,v,S',Y,J,Z,h4,h5,h6⟩=>⟨i,v,S',Y,J,Z,h4,h5,h6⟩
section
variable{t:ι->Ty}{O2:ι->List OE}
def ji{rvs:List ResultVar}(hr:fn.results=rvs.toArray)(Y:Nat.beq rvs.length 1=false)(h:IM P ⟨N,[]⟩ G rvs ts)(i:ι)(hO:O=O2 i)(D:t i=tT ts):
  AT ⟨P,⟨N,[]⟩,wY O1,w0,S0,none⟩ (bodyPost P fn (MX ⟨P,⟨N,[]⟩,wY O1,w0,S0,none⟩ O1 t O2)) .ret O G:=fun a w S st=>by
 obtain⟨vs,k1,k2,k3⟩:=h.run st.sat st.facts
 have hne: ¬vs.length=1:=by rw [k3];intro e;rw [e]at Y;cases Y
 refine⟨st.facts.defers,.tuple vs.toArray,?_,Hw st rfl i hO (by rw [D];exact⟨vs,rfl,k2⟩)⟩
 have e1:(fn.results.mapM (vP a.tmps)).run P w= .ok vs.toArray w:=by
  rw [hr,List.mapM_toArray,Sem.run_map,k1]
  rfl
 have e3:results fn a.tmps=((fn.results.mapM (vP a.tmps))>>=fun vs=>pure (if h:vs.size=1 then vs[0]else .tuple vs)):=rfl
 rw [e3,sP,e1]
 simp [Result.andThen,hne]
end
def RT(u:Value)(t:Ty):Ty where
 p:=fun S v=>v=u/\t.p S u
 mono:=fun h ⟨e,k⟩=>⟨e,t.mono h k⟩
def St.settleP{k:Nat}{x:α}(h:St E (bx r hg b x::O) G a w S)(hk:bJ G k=some (tV (ax b 0))): ∃S',St E O ((k,RT (ax b 0) (bw r x))::G) a w S' :=by
 obtain⟨S',Y⟩:=h.settleB hk
 have hv:a.tmps.getD k undef=ax b 0:=h.facts.at_ k _ hk
 refine⟨S',⟨Y.ext,Y.sat,Y.own,⟨Y.facts.size,Y.facts.defers,fun j t hj=>?_⟩⟩⟩
 have hp:(bw r x).p S' (a.tmps.getD k undef):=Y.facts.at_ k _ (by simp [bJ])
 by_cases V:Nat.beq k j=true
 ·have e:=nD V
  subst e
  simp only [bJ,Nat.beq_refl,cond_true,Option.some.injEq]at hj
  subst hj
  exact⟨hv,by rw [<-hv];exact hp⟩
 ·rw [wp]at V
  have:bJ ((k,bw r x)::G) j=some t:=by
   simp only [bJ,V,cond_false]at hj ⊢;exact hj
  exact Y.facts.at_ j t this
def wo{x:α}{e:Exit}(k:Nat)(hk:bJ G k=some (tV (ax b 0)))(h:AT E Q e O ((k,RT (ax b 0) (bw r x))::G)):AT E Q e (bx r hg b x::O) G:=
 fun a w _ st=>let⟨S',st'⟩:=st.settleP hk;h a w S' st'
def Ni{hs:HL}{x:α}(h:cZ base B w S (bx (rH r hs) hg b x::O)):cZ base B w S (bx r hg b x::O):=by
 obtain⟨⟨⟨Y,c,J,Z⟩,h4⟩,h5,h6⟩:=h
 exact⟨⟨⟨Y,c,J,Z.1⟩,h4⟩,h5,h6⟩
def yk{hs:HL}{x:α}{e:Exit}(h:AT E Q e (bx r hg b x::O) G):AT E Q e (bx (rH r hs) hg b x::O) G:=fun a w S st=>h a w S (st.own_map Ni)
def xI{N:Fr}{G:jM}{k:Nat}{u:Value}{t:Ty}(ti:TI P hg 1 bytes false z)(hk:bJ G k=some (bw rV u))(hj:bJ G j=some (RT u t)):HC P N G (.cell k hg) t:=fun a w S hs X=>by
 obtain⟨v,Y,J⟩:=bg (r:=rV) ti rfl rfl hk a w S hs X
 have Z:=(p6.1 J).1
 subst Z
 obtain⟨_,h4⟩:=X.at_ j _ hj
 exact⟨v,Y,h4⟩
end
variable{et kt:TypeId}{kv:κ->Value}{os:List (Option Nat×Nat)}
section
variable [DecidableEq κ]{k:κ}{i v:Operand}{dst:Option Nat}{ty:TypeId}
def ow{γ:β->Ty}{y:β}(hm:E.P.underlying t=some (.map kt et))(hk:A4 E.P kt kv)(I:aE E.N G x (tV (oD b)))(hi:Cm E.N G i (kv k))(hv:aE E.N G v (γ y))
  (h: ∀os',RG E ops Q rest (pE (yI γ) kv b none os' (ez m k y)::O) G):
  RG E ops Q (⟨none,.insert t x i v,ty,pos,after,none⟩::rest) (pE (yI γ) kv b none os m::O) G:= .of rfl fun a w S st=>by
 have Y:a.eval x=oD b:=I S a st.facts
 have J:a.eval i=kv k:=hi S a st.facts
 have Z:(γ y).p S (a.eval v):=hv S a st.facts
 obtain⟨⟨hp,hfp⟩,hap,hO⟩:=st.own
 obtain⟨hno,hnb,es,clock,e3,e4,hst⟩:=hp
 obtain⟨q,hq,hdk,hinj⟩:=hk
 obtain⟨os1,p1,p2,_⟩:=oZ hdk hinj (k:=k) 0 e4
 have hnb1: ∀o∈os1,o.1≠some b:=fun o ho=>by
  rcases p1 o ho with h|h
  ·exact hnb o h
  ·rw [h];exact fun e=>by cases e
 obtain⟨w',os',r,x1,x2,x3,x4⟩:=BY (hb:=yI γ) (E:=E) (y:=y) (o:=(none,0)) (val:=a.eval v) st.sat hm ⟨q,hq,hdk,hinj⟩ ⟨hno,hnb1,es,clock,e3,p2,hst⟩ ⟨rfl,Z⟩ (fun e=>by cases e) (fun _ _ _ e=>by cases e)
 have hrun:(execOp a.eval ⟨none,.insert t x i v,ty,pos,after,none⟩).run E.P w= .ok .skip w' :=by simp [execOp,Y,J,r]
 refine⟨fun c h=>(by cases h),?_⟩
 rw [hrun]
 have hfp' : ∀j,(pE (yI γ) kv b none os' (ez m k y)).fp j->(pE (yI γ) kv b none os m).fp j:=fun j hj=>by
  rcases x4 j hj with(h|⟨o,ho,e⟩)|e
  ·exact .inl h
  ·rcases p1 o ho with h|h
   ·exact .inr ⟨o,h,e⟩
   ·rw [h]at e;cases e
  ·cases e
 exact h os' _ _ S ⟨st.ext.step x1 (fun c hc=>hfp c (.inl hc)),x2,⟨⟨x3,fun j hj=>hfp j (hfp' j hj)⟩,fun f X j hj=>hap f X j (hfp' j hj),hO.ext x1 fun f X j hj hjb=>hap f X j (.inl hjb) hj⟩,st.facts⟩
end
def RX(b:Bool):Option Unit:=if b then some ()else none
def J6{b:Bool}{u:Unit}(h:RX b=some u):b=true:=by
 unfold RX at h
 split at h
 ·assumption
 ·cases h

def Cc{κ β:Type}(γ:β->Ty)(kv:κ->Value)(S:SH):List MapEntry->List (κ×β)->Prop
 |[],[]=>True
 |e::es,q::m=>e.key=kv q.1/\(γ q.2).p S e.val/\(∀p∈m,p.1≠q.1)/\Cc γ kv S es m
 |_,_=>False
def wh{κ β:Type}{γ:β->Ty}{kv:κ->Value}{S S' :SH}(h:SH.le S S'): ∀{es:List MapEntry} {m:List (κ×β)},Cc γ kv S es m->Cc γ kv S' es m
 |[],[],_=>trivial
 |_::_,q::_,⟨Y,J,Z,h4⟩=>⟨Y,(γ q.2).mono h J,Z,wh h h4⟩
def KL{κ β:Type} [DecidableEq κ]{γ:β->Ty}{kv:κ->Value}{w:World}{S:SH}: ∀{es:List MapEntry} {os:List (Option Nat×Nat)} {m:List (κ×β)},tI (yI γ) kv w S none es os m->Cc γ kv S es m
 |[],[],[],_=>trivial
 |_::_,_::_,_::_,⟨Y,J,_,h4,h5⟩=>⟨Y,by rw [bo (by simp)]at J;exact J.2,h4,KL h5⟩
def Ld{κ β:Type} [DecidableEq κ]{γ:β->Ty}{kv:κ->Value}{w:World}{S:SH}: ∀{es:List MapEntry} {m:List (κ×β)},Cc γ kv S es m->tI (yI γ) kv w S none es (m.map fun _=>(none,0)) m
 |[],[],_=>trivial
 |_::_,_::_,⟨Y,J,Z,h4⟩=>⟨Y,by rw [bo (by simp)];exact⟨rfl,J⟩,fun _ _ _ h=>(by cases h),Z,Ld h4⟩
def I5{κ β:Type}(γ:β->Ty)(kv:κ->Value)(m:List (κ×β)):Ty where
 p:=fun S v=> ∃b es clock,v=oD b/\S b=some (.map es clock)/\Cc γ kv S es.toList m
 mono:=fun h ⟨b,es,cl,e,Y,J⟩=>by
  obtain⟨o',Z,h4⟩:=h b _ Y
  have h5:o' = .map es cl:=h4
  subst h5
  exact⟨b,es,cl,e,Z,wh h J⟩
section
variable [DecidableEq κ]{k:κ}{i:Operand}{γ:β->Ty}{dst:Option Nat}{ty:TypeId}
def St.settleMp(h:St E (pE (yI γ) kv b none os m::O) G a w S)(hk:bJ G j=some (tV (oD b))): ∃S',St E O ((j,I5 γ kv m)::G) a w S' :=by
 obtain⟨⟨hn,_,es,clock,Z,h4,_⟩,_⟩:=h.own.1
 obtain⟨h8,hle,_,_⟩:=sX h (.inl rfl) Z (qM _) hn
 have hv:a.tmps.getD j undef=oD b:=h.facts.at_ j _ hk
 exact⟨_,h8.cons ⟨b,es,clock,hv,by simp [SH.set],wh hle (KL h4)⟩⟩
def Fl{e:Exit}(j:Nat)(hk:bJ G j=some (tV (oD b)))(h:AT E Q e O ((j,I5 γ kv m)::G)):AT E Q e (pE (yI γ) kv b none os m::O) G:=
 fun a w _ st=>let⟨S',st'⟩:=st.settleMp hk;h a w S' st'
end
def PD(P:Program){α β:Type}(args:α->List Ty)(res:β->Ty)(f:α->Option β):Ty where
 p:=fun S v=> ∀x y,f x=some y-> ∃fid cap,v= .func (.func fid) #[] cap/\al P fid=true/\ ∀w S' vs,SH.le S S' ->jo w S' ->tM S' (args x) vs->
  Calls P fid (vs.toArray++cap) w fun e w' => ∃v S'',e= .returned v/\gH oT w S' w' S'' /\jo w' S'' /\(res y).p S'' v
 mono:=fun h k x y hxy=>by
  obtain⟨f,cap,e,hc,k⟩:=k x y hxy
  exact⟨f,cap,e,hc,fun w S' vs hle=>k w S' vs (SH.le_trans h hle)⟩
def Oo{N:Fr}(h:aE N G x (kq P args res f)):aE N G x (PD P args res f):=fun S a X u y hxy=>by
 obtain⟨fid,cap,e,hc,k⟩:=h S a X
 exact⟨fid,cap,e,hc,fun w S' vs=>k u y hxy w S' vs⟩
def LF:(PD P args res (fun _:α=>(none:Option β))).p S v:=fun _ _ h=>by cases h
def Ij{ty:TypeId}{fo:Operand}{x:α}{y:β}{xs:List Operand}(hfo:aE E.N G fo (PD E.P args res f))(h:f x=some y)(I:hG E.N G xs (args x)):
  bR E O G ⟨dst,.call ⟨.value fo,xs.toArray,ats⟩,ty,pos,after,g⟩ (res y):=fun a w S hS _ hF=>by
 obtain⟨fid,cap,e,hc,hs⟩:=hfo S a hF x y h
 have hr:(execOp a.eval ⟨dst,.call ⟨.value fo,xs.toArray,ats⟩,ty,pos,after,g⟩).run E.P w= .ok (.enter fid ((xs.map a.eval).toArray++cap)) w:=by
  simp [execOp,resolve,e,Deferred.ofValue,invoke,fj hc]
 refine⟨fun c h=>(by cases h),?_⟩
 rw [hr]
 exact(hs w S _ (SH.le_refl _) hS (I.tys hF)).mono fun e w' ⟨v,S',he,Y,J,Z⟩=>⟨v,he,v,S',rfl,Y,J,Z⟩

section
variable{ty:TypeId}
def If{s u:I6}{hi:Operand}{j:Int}(D:E.P.underlying t=some .string)(I:aE E.N G x (H rS s))(hh:aE E.N G hi (H (rI k) j))(hy:db s 0 j=some u):
  bR E O G ⟨dst,.slice t x none (some hi) none,ty,pos,after,g⟩ (H rS u):= .of_pure fun a w S _ _ X=>by
 have Y:a.eval x= .string ⟨s.toArray⟩:=CC.1 (I S a X)
 have J:a.eval hi= .int k j:=eZ.1 (hh S a X)
 obtain⟨l,m,e1,e2,e3,e4,e5⟩:=fa hy
 have el:l=0:=by omega
 subst el e2 e5
 have hsz:(ByteArray.mk s.toArray).size=s.length:=by simp [ByteArray.size]
 have Z:=run_slice_string_h (P:=E.P) w t ⟨s.toArray⟩ D k (m:Int) (by omega) (by rw [hsz];omega)
 refine⟨_,by simp only [execOp,Y,J,Option.map_none,yn,sP,run_sliceAt_string w t _ _ _ _ D,Z,tS,Sem.run_pure];rfl,CC.2 ?_⟩
 congr 1
 apply ByteArray.ext
 simp
end
open Go.MapKept (Stamped)
section
variable [DecidableEq κ]
end
section
variable [DecidableEq κ]{r:Nat}{left:List κ}{cur:Option κ}{k:κ}{i v:Operand}{dst:Option Nat}{ty:TypeId}
end
open Go.RowKit

section
variable{ty:TypeId}
def Ii{ix:Operand}{i:Int}(D:E.P.underlying t=some (.array n e))(ti:TI E.P e sz bytes agg z)(hsz:r.sz=sz)(hag:r.agg=agg)(I:aE E.N G x (H (nK r n) xs))(hi:aE E.N G ix (H (rI k) i))(hy:cQ xs i=some y):bR E O G ⟨dst,.index t x ix,ty,pos,after,g⟩ (H r y):= .of_pure fun a w S _ _ X=>by
 obtain⟨cs,Y,J,Z⟩:=I S a X
 have h1' :a.eval x= .agg cs.toArray:=Y
 have h4:a.eval ix= .int k i:=eZ.1 (hi S a X)
 obtain⟨g1,g2⟩:=iL hy
 have hlt:i.toNat<xs.length:=(qf.1 g2).1
 have T:=s0 Z g2
 have hin:0<=i/\i<(n:Int):=⟨g1,by omega⟩
 refine⟨r.val ((cs.drop (i.toNat*r.sz)).take r.sz),?_,_,rfl,T⟩
 have hp:(part e cs.toArray (i.toNat*sz)).run E.P w= .ok (r.val ((cs.drop (i.toNat*r.sz)).take r.sz)) w:=by
  subst hsz
  subst hag
  have hl:=r.len T
  unfold part
  simp only [sP,ti.isAgg,tS]
  cases hA:r.agg with
  |true=>
   simp [ti.sizeOf,Rp.val,hA]
  |false=>
   have Y:=r.sc hA
   rw [Y,Nat.mul_one]at hl ⊢
   cases hd:cs.drop i.toNat with
   |nil=>rw [hd]at hl;simp at hl
   |cons v l=>
    have hv:cs[i.toNat]? =some v:=by
     have:=tW (xs:=cs) (i:=i.toNat) (j:=0)
     rw [hd]at this
     simpa using this.symm
    simp [Rp.val,hA,hv]
 simp [execOp,h1',h4,Instr.index,asIntOf,jD D,hin,ti.sizeOf,hp]

end

abbrev NG:=Nat->(Option Nat×Nat)×(Nat->Option Nat×Nat)
inductive NPl where
 |o
 |i (k:Nat)
 |l (k j:Nat)
section
def RJ(q:Nat->Option Nat×Nat)(zs:List (List α)):List Value:=zs.mapIdx fun j z=>aK (q j).1 (q j).2 z.length
def hd1(prj:β->List (List α))(g:NG)(x:List β):List Value:=x.mapIdx fun k y=>aK (g k).1.1 (g k).1.2 (prj y).length
def nsB(prj:β->List (List α))(l:Option Nat)(g:NG)(x:List β)(h:Option (Nat×Nat)):NPl->Option Nat
 | .o=>l
 | .i k=>(x[k]?).bind fun _=>(g k).1.1
 | .l k j=>if h=some (k,j)then none else((x[k]?).bind fun y=>(prj y)[j]?).bind fun _=>((g k).2 j).1
structure nstP(prj:β->List (List α))(r:Rp α)(T1 T2 T3:TypeId)(l:Option Nat)(cap n:Nat)(g:NG)(x:List β)(h:Option (Nat×Nat))(w:World)(S:SH):Prop where
 len:x.length=n
 out:za false rV T1 l cap (hd1 prj g x) w S
 inn: ∀k y,x[k]? =some y->za false rV T2 (g k).1.1 (g k).1.2 (RJ (g k).2 (prj y)) w S
 lvs: ∀k y j z,x[k]? =some y->(prj y)[j]? =some z->h≠some (k,j)->za true r T3 ((g k).2 j).1 ((g k).2 j).2 z w S
 inj: ∀s t b,nsB prj l g x h s=some b->nsB prj l g x h t=some b->s=t
variable{prj:β->List (List α)}{T1 T2 T3:TypeId}{l:Option Nat}{g:NG}{x:List β}{h:Option (Nat×Nat)}
end
section
variable{prj:β->List (List α)}{T1 T2 T3:TypeId}{l:Option Nat}{g:NG}{x:List β}{h:Option (Nat×Nat)}
variable{ty:TypeId}{gd:Option (Nat×Bool)}
open Classical in
noncomputable def settleS(w:World)(S:SH)(P:Nat->Prop):SH:=fun b=>if P b then w.heap[b]? else S b
def g0(hs:List (Option Nat×Nat)):NG:=fun k=>(hs.getD k (none,0),fun _=>(none,0))
def tsB(l:Option Nat)(q:Nat->Option Nat×Nat)(zs:List (List α))(h:Option Nat):Option Nat->Option Nat
 |none=>l
 |some j=>if h=some j then none else(zs[j]?).bind fun _=>(q j).1
structure rowP(r:Rp α)(T2 T3:TypeId)(l:Option Nat)(cap n:Nat)(q:Nat->Option Nat×Nat)(zs:List (List α))(h:Option Nat)(w:World)(S:SH):Prop where
 len:zs.length=n
 inn:za false rV T2 l cap (RJ q zs) w S
 lvs: ∀j z,zs[j]? =some z->h≠some j->za true r T3 (q j).1 (q j).2 z w S
 inj: ∀s t b,tsB l q zs h s=some b->tsB l q zs h t=some b->s=t
variable{q:Nat->Option Nat×Nat}{zs:List (List α)}{k:Option Nat}
end

def Bz(es:List Bool)(done:Array Bool):List Nat:=(List.range es.length).filter fun k=>(es[k]?).getD false&&done.getD k false
def Me(es:List Bool)(i:Nat)(s:List Nat):List Nat:=(List.range es.length).filter fun k=>Nat.beq k i||s.contains k
def Pk:List Nat->List Nat->Bool
 |[],[]=>true
 |a::s,b::t=>Nat.beq a b&&Pk s t
 |_,_=>false
def Gt: ∀{s t:List Nat},Pk s t=true->s=t
 |[],[],_=>rfl
 |a::s,b::t,h=>by
  simp only [Pk,iX]at h
  rw [nD h.1,Gt h.2]
 |[],_::_,h=>by cases h
 |_::_,[],h=>by cases h
def I7:List (List Nat×((Nat->OI)->List OE))->List Nat->(Nat->OI)->List OE
 |[],_,_=>[]
 |p::r,s,σ=>bif Pk p.1 s then p.2 σ else I7 r s σ
def wT{k:Nat}:k∈Bz es done↔es[k]? =some true/\done.getD k false=true:=by
 unfold Bz
 rw [vc,List.mem_range,iX]
 constructor
 ·rintro⟨Y,J,Z⟩
  refine⟨?_,Z⟩
  rw [qY Y]at J ⊢
  simpa using J
 ·rintro⟨Y,J⟩
  exact⟨(qf.1 Y).1,by rw [Y];rfl,J⟩
def IA{i:Nat}(h:es[i]? =some false):Bz es (done.setIfInBounds i true)=Bz es done:=by
 unfold Bz
 refine List.filter_congr fun k hk=>?_
 by_cases hik:i=k
 ·subst hik;rw [h];rfl
 ·rw [sf false hik]
def MZ{i:Nat}(h:es[i]? =some true)(hs:i<done.size):Bz es (done.setIfInBounds i true)=Me es i (Bz es done):=by
 unfold Me
 conv=>lhs;unfold Bz
 refine List.filter_congr fun k hk=>?_
 by_cases hik:i=k
 ·subst hik;simp [h,hs]
 ·rw [sf false hik]
  have V:Nat.beq k i=false:=by
   cases V:Nat.beq k i with
   |false=>rfl
   |true=>exact absurd (nD V).symm hik
  rw [V,tZ,zk,Dy,wT,iX]
  constructor
  ·rintro⟨Y,J⟩
   refine⟨?_,J⟩
   cases he:es[k]? with
   |none=>rw [he]at Y;cases Y
   |some b=>rw [he]at Y;simpa using Y
  ·rintro⟨Y,J⟩
   exact⟨by rw [Y];rfl,J⟩
def BK:List Nat->List (List Nat)
 |[]=>[[]]
 |k::l=>(BK l).map (k:: ·)++BK l
def y8(es:List Bool):List Nat:=(List.range es.length).filter fun k=>(es[k]?).getD false
def uw(p:Nat->Bool): ∀l:List Nat,l.filter p∈BK l
 |[]=>jL.2 rfl
 |k::l=>by
  unfold BK
  rw [pY]
  by_cases h:p k=true
  ·rw [Dz h]
   exact .inl (rC.2 ⟨_,uw p l,rfl⟩)
  ·rw [Cv h]
   exact .inr (uw p l)
def KP(es:List Bool)(done:Array Bool):Bz es done∈BK (y8 es):=by
 have:Bz es done=(y8 es).filter fun k=>done.getD k false:=by
  unfold Bz y8
  rw [List.filter_filter]
  refine List.filter_congr fun k _=>Bool.and_comm ..
 rw [this]
 exact uw _ _
def RU(L:List Oper)(es:List Bool)(i:Nat)(s:List Nat):Bool:=
 s.contains i||(y8 es).any fun k=>if s.contains k then lD L L.length k i||(y8 es).any fun j=> !s.contains j&&lD L L.length k j else lD L L.length i k
def HV(L:List Oper)(es:List Bool)(i:Nat)(aas:List (List Nat)):Bool:=(BK (y8 es)).all fun s=>RU L es i s||aas.any fun a=>Pk a s
def Fk{α:Type}(p:α->Prop):List α->Prop
 |[]=>True
 |a::l=>p a/\Fk p l
def Fk.mem{p:α->Prop}: ∀{l:List α},Fk p l-> ∀a∈l,p a
 |_::_,⟨h,_⟩,_,.head _=>h
 |_::_,⟨_,h⟩,_,.tail _ hm=>Fk.mem h _ hm
abbrev PH:=List (List Nat×((Nat->OI)->List OE))
def DT(E:En)(G:jM)(L:List Oper)(ts:List TS)(Ss:PH)(es0:List Bool):Nat->List Oper->List Bool->Prop
 |_,[],_=>True
 |i,o::rest,false::es=>(∃(needs:List NS) (t:TS) (aas:List (List Nat)),ts[i]? =some t/\tz G ts needs/\(needs.all fun n=>lM L o i (n.at fun _=>qg))=true/\dx i o=true/\IB L es0 i t=true/\HV L es0 i aas=true/\o.dst.isSome=true/\
   Fk (fun s=> ∀σ,bO E (I7 Ss s σ) L.toArray (tw needs σ) o (t.at σ)) aas)/\DT E G L ts Ss es0 (i+1) rest es
 |i,o::rest,true::es=>(∃(needs:List NS) (t:TS) (aas:List (List Nat×List Nat)),ts[i]? =some t/\tz G ts needs/\(needs.all fun n=>lM L o i (n.at fun _=>qg))=true/\dx i o=true/\IB L es0 i t=true/\HV L es0 i (aas.map (·.1))=true/\(aas.all fun p=>Pk (Me es0 i p.1) p.2)=true/\
   Fk (fun p:List Nat×List Nat=> ∀σ,me E L.toArray (I7 Ss p.1 σ) (tw needs σ) o (fun x=>I7 Ss p.2 (Fo σ i x)) (fun x=>t.at (Fo σ i x))) aas)/\DT E G L ts Ss es0 (i+1) rest es
 |_,_::_,[]=>False
def DT.get{ts:List TS}{Ss:PH}{es0:List Bool}: ∀(r:List Oper) (es:List Bool) (k:Nat),DT E G L ts Ss es0 k r es-> ∀(j:Nat) (o:Oper),r[j]? =some o->
    ∃e,es[j]? =some e/\ ∃(needs:List NS) (t:TS),ts[k+j]? =some t/\tz G ts needs/\(needs.all fun n=>lM L o (k+j) (n.at fun _=>qg))=true/\dx (k+j) o=true/\IB L es0 (k+j) t=true/\
      (match e with
       |false=>o.dst.isSome=true/\ ∃aas,HV L es0 (k+j) aas=true/\Fk (fun s=> ∀σ,bO E (I7 Ss s σ) L.toArray (tw needs σ) o (t.at σ)) aas
       |true=> ∃aas:List (List Nat×List Nat),HV L es0 (k+j) (aas.map (·.1))=true/\(aas.all fun p=>Pk (Me es0 (k+j) p.1) p.2)=true/\Fk (fun p:List Nat×List Nat=> ∀σ,me E L.toArray (I7 Ss p.1 σ) (tw needs σ) o (fun x=>I7 Ss p.2 (Fo σ (k+j) x)) (fun x=>t.at (Fo σ (k+j) x))) aas):=by
  intro r
  induction r with
  |nil=>intro es k _ j o h;simp at h
  |cons p r ih=>
    intro es k h j o ho
    cases es with
    |nil=>exact h.elim
    |cons e es=>
      cases e with
      |false=>
        obtain⟨⟨needs,t,aas,g1,g2,g3,g4,g5,g6,g7,g8⟩,J⟩:=h
        cases j with
        |zero=>
          simp at ho;subst ho
          exact⟨false,rfl,needs,t,g1,g2,g3,g4,g5,g7,aas,g6,g8⟩
        |succ j=>
          obtain⟨e',g1,g2⟩:=ih es (k+1) J j o (by simpa using ho)
          refine⟨e',by simpa using g1,?_⟩
          rw [show k+1+j=k+(j+1)from by omega]at g2
          exact g2
      |true=>
        obtain⟨⟨needs,t,aas,g1,g2,g3,g4,g5,g6,g7,g8⟩,J⟩:=h
        cases j with
        |zero=>
          simp at ho;subst ho
          exact⟨true,rfl,needs,t,g1,g2,g3,g4,g5,aas,g6,g7,g8⟩
        |succ j=>
          obtain⟨e',g1,g2⟩:=ih es (k+1) J j o (by simpa using ho)
          refine⟨e',by simpa using g1,?_⟩
          rw [show k+1+j=k+(j+1)from by omega]at g2
          exact g2
structure N3(E:En)(G:jM)(l:List Oper)(ts:List TS)(Ss:PH)(es:List Bool)(done:Array Bool)(a:Act)(w:World)(S:SH)(σ:Nat->OI):Prop where
 ext:gH E.B E.w0 E.S0 w S
 sat:jo w S
 own:cZ E.base E.B w S (I7 Ss (Bz es done) σ)
 size:a.tmps.size=E.N.n
 defers:a.defers=E.N.ds
 dsz:done.size=l.length
 down: ∀j o,l[j]? =some o->done.getD j false=true-> ∀e∈o.after,Region.binds .any e=true->done.getD e.on false=true
 old: ∀k t,bJ G k=some t->(∀j o,l[j]? =some o->done.getD j false=true->o.dst≠some k)->t.p S (a.tmps.getD k undef)
 new: ∀j o d p,l[j]? =some o->done.getD j false=true->o.dst=some d->ts[j]? =some p->(p.at σ).p S (a.tmps.getD d undef)
 deps: ∀j p,done.getD j false=true->ts[j]? =some p-> ∀k∈p.1,done.getD k false=true
section
variable{ts:List TS}{Ss:PH}
def N3.need(h:N3 E G L ts Ss es done a w S σ){i:Nat}(hi:L[i]? =some o)(hun:done.getD i true=false)(hwait: ∀e∈o.after,Region.binds .any e=true->done.getD e.on false=true){needs:List NS}(Y:tz G ts needs)(J:(needs.all fun n=>lM L o i (n.at fun _=>qg))=true):cP E.N S a (tw needs σ):=by
 have hlt:i<done.size:=by rw [h.dsz];exact(qf.1 hi).1
 have hun' :done.getD i false=false:=by
  simp [hlt]at hun ⊢;exact hun
 refine⟨h.size,h.defers,?_⟩
 have key: ∀n∈needs,(n.ty σ).p S (a.tmps.getD n.slot undef):=by
  intro n hn
  have hs:=jK.1 J n hn
  have ho:=Y.mem n hn
  unfold lM NS.at at hs
  unfold Ns at ho
  cases hsrc:n.src with
  |some j=>
   rw [hsrc]at hs ho
   simp only [iX]at hs
   obtain⟨hs1,hs2⟩:=hs
   cases hj:L[j]? with
   |none=>rw [hj]at hs1;cases hs1
   |some p=>
    rw [hj]at hs1
    cases hd:p.dst with
    |none=>simp only [hd]at hs1;cases hs1
    |some d=>
     simp only [hd]at hs1
     have hd' :=nD hs1
     subst hd'
     have hdone:done.getD j false=true:=by
      unfold yu at hs2
      obtain⟨e,he0,V⟩:=vv.1 hs2
      have he:e∈o.after:=by simpa using he0
      simp only [iX]at V
      have:=hwait e he V.2
      rwa [nD V.1]at this
     have hm:=ho σ
     cases X:ts[j]? with
     |none=>rw [X]at hm;simp at hm
     |some f=>
      rw [X]at hm
      have e:f.at σ=n.ty σ:=by simpa using hm
      rw [<-e]
      exact h.new j p n.slot f hj hdone hd X
  |none=>
   rw [hsrc]at hs ho
   refine h.old _ _ (ho σ) fun j p hj hdone hd=>?_
   have:=jK.1 hs p (rZ hj)
   simp only [hd,Nat.beq_refl,nC,tZ]at this
   unfold yu at this
   obtain⟨e,he0,V⟩:=vv.1 this
   have he:e∈p.after:=by simpa using he0
   simp only [iX]at V
   have Z:=h.down j p hj hdone e he V.2
   rw [nD V.1]at Z
   rw [Z]at hun'
   cases hun'
 clear Y J
 intro k t hk
 unfold tw at hk
 induction needs with
 |nil=>simp [gO,bJ]at hk
 |cons n needs ih=>
  simp only [pn]at hk
  unfold gO bJ at hk
  by_cases V:Nat.beq n.slot k=true
  ·have hb' :Nat.beq (n.at σ).slot k=true:=V
   rw [hb']at hk
   have:=nD V
   subst this
   have h9:some (n.at σ).ty=some t:=by simpa using hk
   have e:n.ty σ=t:=pZ h9
   rw [<-e]
   exact key n (lK ..)
  ·rw [wp]at V
   have hb' :Nat.beq (n.at σ).slot k=false:=V
   rw [hb']at hk
   exact ih (fun m hm=>key m (mZ _ hm)) hk
def N3.step{σ' :Nat->OI}(h:N3 E G L ts Ss es done a w S σ){i:Nat}{p0:TS}{C:Nat->Prop}(hi:L[i]? =some o)(hdN: ∀d,o.dst=some d->d<E.N.n)(hs2: ∀d,o.dst=some d-> ∀j p,L[j]? =some p->done.getD j false=true->p.dst=some d->i=j)(hwait: ∀e∈o.after,Region.binds .any e=true->done.getD e.on false=true)(D:ts[i]? =some p0)(hun:done.getD i true=false)(hdep: ∀k∈p0.1,k=i\/done.getD k false=true)(hext:gH C w S w' S')(hC: ∀b,C b->E.base<=b\/E.B b)(hsat:jo w' S')(hown:cZ E.base E.B w' S' (I7 Ss (Bz es (done.setIfInBounds i true)) σ'))(hσ: ∀k,k≠i->σ' k=σ k)(hv:(p0.at σ').p S' v):
  N3 E G L ts Ss es (done.setIfInBounds i true) (a.put o.dst v) w' S' σ' :=by
 have hlt:i<done.size:=by rw [h.dsz];exact(qf.1 hi).1
 have hset: ∀j,(done.setIfInBounds i true).getD j false=true->j=i\/done.getD j false=true:=fun j hj=>by
  by_cases hij:i=j
  ·exact .inl hij.symm
  ·rw [sf false hij]at hj;exact .inr hj
 have hseti:(done.setIfInBounds i true).getD i false=true:=by simp [hlt]
 have hun' :done.getD i false=false:=by simp [hlt]at hun ⊢;exact hun
 have hput: ∀k,(∀d,o.dst=some d->d≠k)->(a.put o.dst v).tmps.getD k undef=a.tmps.getD k undef:=fun k hk=>by
  cases hd:o.dst with
  |none=>rfl
  |some d=>
   have hda:d<a.tmps.size:=by rw [h.size];exact hdN d hd
   rw [ph hda,bo (hk d hd)]
 refine⟨h.ext.step hext hC,hsat,hown,?_,?_,by simp [h.dsz],fun j p hj hdone e he V=>?_,fun k u hk hno=>?_,fun j p d' u hj hdone hd' hu=>?_,fun j u hj hu k hk=>?_⟩
 ·cases o.dst with
  |none=>exact h.size
  |some d=>simp [Act.put,h.size]
 ·cases o.dst with
  |none=>exact h.defers
  |some d=>exact h.defers
 ·rcases hset j hdone with rfl|hj'
  ·rw [hi]at hj
   have:o=p:=by simpa using hj
   subst this
   exact sQ (hwait e he V)
  ·exact sQ (h.down j p hj hj' e he V)
 ·rw [hput k fun d hd e=>hno i o hi hseti (by rw [hd,e])]
  exact u.mono hext.keep (h.old k u hk fun j p hj hdone=>hno j p hj (sQ hdone))
 ·by_cases hij:j=i
  ·subst hij
   rw [hi]at hj
   have:o=p:=by simpa using hj
   subst this
   have hda:d' <a.tmps.size:=by rw [h.size];exact hdN d' hd'
   rw [hd',ph hda,bD rfl]
   rw [D]at hu
   have:p0=u:=by simpa using hu
   subst this
   exact hv
  ·have hj' :=(hset j hdone).resolve_left hij
   rw [hput d' fun d hd e=>by subst e;exact hij (hs2 d hd j p hj hj' hd').symm]
   have e1:u.at σ' =u.at σ:=congrArg u.2 (Bg fun k hk=>hσ k fun e=>by
     subst e
     rw [h.deps j u hj' hu k hk]at hun';cases hun')
   rw [e1]
   exact Ty.mono _ hext.keep (h.new j p d' u hj hj' hd' hu)
 ·rcases hset j hj with rfl|hj'
  ·rw [D]at hu
   have:p0=u:=by simpa using hu
   subst this
   rcases hdep k hk with rfl|h'
   ·exact hseti
   ·exact sQ h'
  ·exact sQ (h.deps j u hj' hu k hk)
end
def DD{l t:List Oper}{ts:List TS}{Ss:PH}(hsl:uc E.N.n [] l=true)(hlen:ts.length=l.length)(hesl:es.length=l.length)(hd:DT E G (l++t) ts Ss es 0 l es)(D:vf (l++t) l.length t.length=true)(hQ: ∀a w S σ,St E (I7 Ss (y8 es) σ) (D9 l (Ll ts σ) G) a w S->wpListIn (fw E.r) 0 E.P (l++t).toArray Q t a w):
  ∀(fuel:Nat) (done:Array Bool) (a:Act) (w:World) (S:SH) (σ:Nat->OI),jG done=fuel->(∀j,l.length<=j->done.getD j false=false)->N3 E G (l++t) ts Ss es done a w S σ->wpAnyIn (fw E.r) 0 E.P .any (l++t).toArray Q fuel done a w:=by
 have hL1: ∀i o,i<l.length->(l++t)[i]? =some o->l[i]? =some o:=fun i o hi h=>by rwa [u4 hi]at h
 have hL2: ∀i o,l[i]? =some o->(l++t)[i]? =some o:=fun i o h=>by rw [u4 (qf.1 h).1];exact h
 have htail: ∀m o,l.length<=m->(l++t)[m]? =some o->tf (l++t) m=true/\dx m o=true:=fun m o hm ho=>by
  have hml:m<(l++t).length:=(qf.1 ho).1
  rw [jE]at hml
  unfold vf at D
  have:=jK.1 D (m-l.length) (by simp;omega)
  rw [show l.length+(m-l.length)=m from by omega,ho]at this
  simp only [iX]at this
  exact⟨this.1,this.2.1⟩
 have hget:=fun i o (hi:l[i]? =some o)=>DT.get l es 0 hd i o hi
 have hedge: ∀i o,(l++t)[i]? =some o->dx i o=true:=fun i o hi=>by
  rcases ll i l.length with h|h
  ·obtain⟨_,_,_,_,_,_,_,h,_⟩:=hget i o (hL1 i o h hi)
   simpa using h
  ·exact(htail i o h hi).2
 obtain⟨hs1,hs2⟩:=yA l [] hsl
 have fin: ∀fuel done a w S σ,jG done=fuel->(∀j,l.length<=j->done.getD j false=false)->N3 E G (l++t) ts Ss es done a w S σ->(∀i,i<l.length->done.getD i false=true)->wpAnyIn (fw E.r) 0 E.P .any (l++t).toArray Q fuel done a w:=by
  intro fuel done a w S σ hu hfree h hall
  have hdn:Bz es done=y8 es:=by
   unfold Bz y8
   refine List.filter_congr fun k hk=>?_
   rw [hall k (by rw [<-hesl];exact List.mem_range.1 hk),zr]
  have hown:=h.own
  rw [hdn]at hown
  refine vC (n:=l.length) (fun m o hm ho=>(htail m o hm ho).1) hedge t l.length done fuel a w (iQ _) (by simp) h.dsz (fun j hj=>⟨fun hjd=>?_,fun hlt=>hall j hlt⟩) hu
   (hQ a w S σ ⟨h.ext,h.sat,hown,h.size,h.defers,fun j u hj=>?_⟩)
  ·rcases ll j l.length with h' |h'
   ·exact h'
   ·rw [hfree j h']at hjd;cases hjd
  ·rcases B2 l (Ll ts σ) j u (by unfold Ll;rw [zl];exact hlen) hj with⟨i,o,Y,J,Z⟩|⟨Y,J⟩
   ·unfold Ll at Z
    rw [yp]at Z
    cases X:ts[i]? with
    |none=>rw [X]at Z;simp at Z
    |some f=>
     rw [X]at Z
     have e:f.at σ=u:=by simpa using Z
     rw [<-e]
     exact h.new i o j f (hL2 i o Y) (hall i (qf.1 Y).1) J X
   ·refine h.old j u Y fun i o ho hdn=>?_
    rcases ll i l.length with h' |h'
    ·exact J o (rZ (hL1 i o h' ho))
    ·rw [hfree i h']at hdn;cases hdn
 have lower: ∀done a w S σ i,(∀j,l.length<=j->done.getD j false=false)->N3 E G (l++t) ts Ss es done a w S σ->i∈Region.ready .any (l++t).toArray done->l.length<=i-> ∀j,j<l.length->done.getD j false=true:=by
  intro done a w S σ i hfree h hi hge j hj
  obtain⟨hun,p,hp,hwait⟩:=qr.1 hi
  have hp' :(l++t)[i]? =some p:=by simpa using hp
  have hcov:=(htail i p hge hp').1
  unfold tf at hcov
  have hre:=jK.1 hcov j (by simp;omega)
  exact fm h.down _ i j (fun q hq e he V=>by
   have:q=p:=by rw [hp']at hq;simpa using hq.symm
   subst this
   exact hwait e he V) hre
 intro fuel
 induction fuel with
 |zero=>
  intro done a w S σ hu hfree h
  exact fin 0 done a w S σ hu hfree h fun i hi=>q8 hu (by rw [h.dsz,jE];omega)
 |succ fuel ih=>
  intro done a w S σ hu hfree h
  by_cases hall: ∀i,i<l.length->done.getD i false=true
  ·exact fin _ done a w S σ hu hfree h hall
  have hready0: ∀m i,i<m->i<l.length->Region.ready .any (l++t).toArray done=[]->done.getD i false=true:=by
   intro m
   induction m with
   |zero=>intro i h;omega
   |succ m ihm=>
    intro i him hil hr
    have his:i<done.size:=by rw [h.dsz,jE];omega
    by_cases hdn:done.getD i true=true
    ·rw [<-my his];exact hdn
    ·exfalso
     obtain⟨o,ho⟩: ∃o,(l++t)[i]? =some o:=⟨l[i],hL2 i _ (qY hil)⟩
     have hmem:i∈Region.ready .any (l++t).toArray done:=by
      rw [qr]
      refine⟨by simpa using hdn,o,by simpa using ho,fun e he V=>?_⟩
      have:=hedge i o ho
      unfold dx at this
      have:=jK.1 this e (by simpa using he)
      simp only [V,nC,tZ,tA]at this
      exact ihm e.on (by omega) (by omega) hr
     rw [hr]at hmem;cases hmem
  refine⟨fun hr=>absurd (fun i hi=>hready0 (i+1) i (by omega) hi hr) hall,fun i hi=>?_⟩
  have hil:i<l.length:=by
   rcases ll i l.length with h' |h'
   ·exact h'
   ·exact absurd (lower done a w S σ i hfree h hi h') hall
  obtain⟨hun,o,ho,hwait⟩:=qr.1 hi
  have ho' :(l++t)[i]? =some o:=by simpa using ho
  have hol:=hL1 i o hil ho'
  obtain⟨e,he,needs,u,Y,J,Z,_,h4,h5⟩:=hget i o hol
  rw [pL]at Y Z h4
  have hF:=h.need ho' hun hwait J Z
  have his:i<done.size:=by rw [h.dsz,jE];omega
  have hun' :done.getD i false=false:=by rw [<-my his];exact hun
  have hu' :jG (done.setIfInBounds i true)=fuel:=by have:=oK hun;omega
  have huq: ∀d,o.dst=some d-> ∀j p,(l++t)[j]? =some p->done.getD j false=true->p.dst=some d->i=j:=fun d hdd j p hj hjd hpd=>by
   rcases ll j l.length with h' |h'
   ·exact hs2 i j o p d hol (hL1 j p h' hj) hdd hpd
   ·rw [hfree j h']at hjd;cases hjd
  have hfree' : ∀j,l.length<=j->(done.setIfInBounds i true).getD j false=false:=fun j hj=>by
   rw [sf false (by omega)];exact hfree j hj
  have hbl:E.base<=w.heap.size:=h.ext.size
  have hwaits: ∀q,(l++t)[i]? =some q-> ∀e∈q.after,Region.binds .any e=true->done.getD e.on false=true:=fun q hq e he V=>by
   have:q=o:=by rw [ho']at hq;simpa using hq.symm
   subst this
   exact hwait e he V
  have hdpp: ∀k∈u.1,k=i\/done.getD k false=true:=fun k hk=>by
   have:=jK.1 h4 k hk
   simp only [iX,vu]at this
   rcases this.2 with V|V
   ·exact .inl (nD V)
   ·exact .inr (fm h.down _ i k hwaits V)
  have hdNN: ∀d,o.dst=some d->d<E.N.n:=fun d hd=>(hs1 o (rZ hol) d hd).1
  unfold wpOpIn
  rw [ho]
  show if _ then _ else _
  -- just these effects stand
  have hpos:RU (l++t) es i (Bz es done)=false:=by
   rw [wv]
   intro hno
   unfold RU at hno
   rw [vu]at hno
   rcases hno with hc|hc
   ·have:=(wT.1 (Dy.1 hc)).2
    rw [this]at hun';cases hun'
   ·obtain⟨k,hk1,hk2⟩:=vv.1 hc
    have hke:es[k]? =some true:=by
     unfold y8 at hk1
     rw [vc,List.mem_range]at hk1
     have h7:=hk1.2
     rw [qY hk1.1]at h7 ⊢
     simpa using h7
    by_cases hin:(Bz es done).contains k=true
    ·rw [bD hin,vu]at hk2
     have hkd:=(wT.1 (Dy.1 hin)).2
     rcases hk2 with V|V
     ·have:=fm h.down _ k i (fun q hq e he V=>h.down k q hq hkd e he V) V
      rw [this]at hun';cases hun'
     ·obtain⟨j,hj1,hj2⟩:=vv.1 V
      rw [iX,yo]at hj2
      have hje:es[j]? =some true:=by
       unfold y8 at hj1
       rw [vc,List.mem_range]at hj1
       have h7:=hj1.2
       rw [qY hj1.1]at h7 ⊢
       simpa using h7
      have hjd:=fm h.down _ k j (fun q hq e he V=>h.down k q hq hkd e he V) hj2.2
      have:=Dy.2 (wT.2 ⟨hje,hjd⟩)
      rw [hj2.1]at this;cases this
    ·rw [bo hin]at hk2
     have hkd:=fm h.down _ i k hwaits hk2
     exact hin (Dy.2 (wT.2 ⟨hke,hkd⟩))
  have hwin: ∀aas:List (List Nat),HV (l++t) es i aas=true->Bz es done∈aas:=by
   intro aas hw
   unfold HV at hw
   have:=jK.1 hw _ (KP es done)
   rw [hpos,tZ]at this
   obtain⟨b,hb1,hb2⟩:=vv.1 this
   rw [<-Gt hb2];exact hb1
  cases e with
  |false=>
   simp only at h5
   obtain⟨hdS,aas,hw,h5⟩:=h5
   rw [pL]at hw
   obtain⟨d,hdd⟩:=DA.1 hdS
   have h6:=h5.mem _ (hwin aas hw) σ a w S h.sat h.own hF
   have hdq:=IA (done:=done) he
   by_cases hw:Region.wanted o (yielded (l++t).toArray a.tmps)=true
   ·rw [bD hw]at h6 ⊢
    refine js (fun a' w' ⟨v,S',ha,I,hs,hv⟩=>?_) h6
    subst ha
    exact ih _ _ _ S' _ hu' hfree' (h.step ho' hdNN huq hwait Y hun hdpp I (fun _ V=>V.elim) hs (by rw [hdq];exact h.own.ext0 I) (fun _ _=>rfl) hv)
   ·rw [bo hw]at h6 ⊢
    exact⟨fun _ _=>trivial,ih _ _ _ S _ hu' hfree' (h.step ho' hdNN huq hwait Y hun hdpp (gH.refl oT _ _) (fun _ V=>V.elim) h.sat (by rw [hdq];exact h.own) (fun _ _=>rfl) h6)⟩
  |true=>
   simp only [pL]at h5
   obtain⟨aas,hw,hins,h5⟩:=h5
   obtain⟨p,hp1,hp2⟩:=rC.1 (hwin _ hw)
   have hp3:=Gt (jK.1 hins p hp1)
   have h6:=h5.mem p hp1 σ a w S h.sat (by rw [hp2];exact h.own) hF hbl
   have hdq:Bz es (done.setIfInBounds i true)=p.2:=by rw [MZ he his,<-hp2,hp3]
   by_cases hw:Region.wanted o (yielded (l++t).toArray a.tmps)=true
   ·rw [bD hw]at h6 ⊢
    refine js (fun a' w' ⟨v,S',x,ha,I,hs,hown,hv⟩=>?_) h6
    subst ha
    exact ih _ _ _ S' _ hu' hfree' (h.step ho' hdNN huq hwait Y hun hdpp I (fun b ⟨f,X,V⟩=>(cZ.mem h.own f (by rw [<-hp2];exact X)).2 b V) hs (by rw [hdq];exact hown) (fun k hk=>zI σ x hk) hv)
   ·rw [bo hw]at h6 ⊢
    obtain⟨x,hown,hv⟩:=h6
    exact⟨fun _ _=>trivial,ih _ _ _ S _ hu' hfree' (h.step ho' hdNN huq hwait Y hun hdpp (gH.refl oT _ _) (fun _ V=>V.elim) h.sat (by rw [hdq];exact hown) (fun k hk=>zI σ x hk) hv)⟩
def Fj{id:Nat}(m:Nat)(ts:List TS)(es:List Bool)(Ss:PH)(hO: ∀σ,I7 Ss [] σ=O)(hm:E.P.follows .mixedOrders=true)(hsl:uc E.N.n [] (L.take m)=true)(hlen:ts.length=(L.take m).length)(hesl:es.length=(L.take m).length)(D:vf L (L.take m).length (L.drop m).length=true)(hd:DT E G L ts Ss es 0 (L.take m) es)(k: ∀σ:Nat->OI,RG E L.toArray Q (L.drop m) (I7 Ss (y8 es) σ) (D9 (L.take m) (Ll ts σ) G)):CG E Q (.region id L.toArray true) O G:=fun a w S st=>by
 have hL:L=L.take m++L.drop m:=(r0 m L).symm
 generalize L.take m=l at hL hsl hlen hesl D hd k
 generalize L.drop m=t at hL D k
 subst hL
 refine wpIn_region_any hm ?_
 obtain⟨he,hs⟩:=uF (w:=w) st.sat
 have hdn0:Bz es (Array.replicate (l++t).toArray.size false)=[]:=by
  unfold Bz
  refine List.filter_eq_nil_iff.2 fun k hk=>?_
  simp [vw]
  intro _
  split<;>simp
 refine DD hsl hlen hesl hd D (fun a w S σ st=>k σ a w S st) _ _ _ _ S (fun _=>qg) ?_ (fun j _=>?_)
  ⟨st.ext.step0 he,hs,by rw [hdn0,hO];exact st.own.ext0 he,st.facts.size,st.facts.defers,by simp,fun j o hj hdone=>?_,fun k t hk _=>st.facts.at_ k t hk,fun j o d t hj hdone=>?_,fun j p hdone=>?_⟩
 ·unfold jG;rw [GX,GV];simp
 ·simp [vw];split<;>rfl
 ·simp [vw]at hdone
  split at hdone<;>simp at hdone
 ·simp [vw]at hdone
  split at hdone<;>simp at hdone
 ·simp [vw]at hdone
  split at hdone<;>simp at hdone

def cZ.perm(h:O.Perm O'):cZ base B w S O->cZ base B w S O' :=by
 induction h with
 |nil=>exact id
 |cons x p ih=>
  rintro⟨Y,J,Z⟩
  exact⟨Y,fun f X=>J f (p.mem_iff.2 X),ih Z⟩
 |swap x y l=>
  rintro⟨Y,J,Z,h4,h5⟩
  refine⟨Z,fun f X k hk hfk=>?_,Y,fun f X=>J f (mZ _ X),h5⟩
  rcases fT.1 X with rfl|X
  ·exact J x (lK ..) k hfk hk
  ·exact h4 f X k hk hfk
 |trans _ _ ih1 ih2=>exact fun k=>ih2 (ih1 k)
def rd(O:List OE):List Nat->List OE
 |[]=>[]
 |i::l=>match O[i]? with
  |some e=>e::rd O l
  |none=>rd O l
def wK(O:List OE): ∀a b:List Nat,rd O (a++b)=rd O a++rd O b
 |[],_=>rfl
 |i::a,b=>by
  simp only [xr,rd]
  split<;>simp [wK O a b]
def FW{a b:List Nat}(h:a.Perm b):(rd O a).Perm (rd O b):=by
 induction h with
 |nil=>exact .nil
 |cons x p ih=>
  simp only [rd]
  split
  ·exact .cons _ ih
  ·exact ih
 |swap x y l=>
  simp only [rd]
  cases I:O[x]? <;>cases hy:O[y]? <;>simp<;>exact .swap ..
 |trans _ _ ih1 ih2=>exact ih1.trans ih2
def D5(O:List OE):rd O (List.range O.length)=O:=by
 have key: ∀n,n<=O.length->rd O (List.range n)=O.take n:=by
  intro n
  induction n with
  |zero=>intro _;rfl
  |succ n ih=>
   intro h
   rw [List.range_succ,wK,ih (by omega)]
   simp only [rd]
   rw [qY (by omega),HQ (by omega)]
 rw [key _ (iQ _),zn]
def cZ.pick(l:List Nat)(hl:l.isPerm (List.range O.length)=true)(h:cZ base B w S O):cZ base B w S (rd O l):=
 h.perm (by
  have:=FW (O:=O) (List.isPerm_iff.1 hl)
  rw [D5]at this
  exact this.symm)

def zR{xs:List β}{v:β}{i:Int}(hi:0<=i/\i<(n:Int)):ov (nK q n) (nK q n) (i.toNat*q.sz) q xs v (xs.set i.toNat v):=fun S cs ds ⟨Y,J⟩ hd=>
 ⟨by rw [BD];exact Y,wH hd J (by omega)⟩
section
section
variable{ty:TypeId}
end
def lE{ty:TypeId}{l:Option Nat}{o:Nat}{j:Int}(hm:jJ mm r U l cap xs∈O)(hy:cQ xs j=some y)(hp:aE E.N G p (tV (jf l o))):
  bR E O G ⟨dst,.nilCheck p,ty,pos,after,g⟩ (tV (jf l o)):=
 .of_pure fun a w S _ ho hF=>by
  have Y:a.eval p=jf l o:=hp S a hF
  obtain⟨_,hy'⟩:=iL hy
  obtain⟨b,cur,rfl,_⟩:=pA (ho.mem _ hm).1 hy'
  exact⟨jf (some b) o,by simp [execOp,Y,jf,ax],rfl⟩
end
open Go.ChangeShapes Go.WideShapes Go.ChangeAt

variable{tD:Type}{W:World}{enc:TypeId×Value->tD}
section
def Eo(W:World):SH:=fun b=>W.heap[b]?
def Ot(W:World)(T: ∀p∈Qr,∃c hg fr,W.heap[p.1]? =some (.cells c hg fr)/\c.toList.take p.2.length=p.2)(D: ∀w' :World,(∀(b:Nat) (o:Obj),W.heap[b]? =some o-> ∃o',w'.heap[b]? =some o' /\Eb o o')->Qd w'):jo W (Eo W):=⟨fun _ o h=>⟨o,h,qM o⟩,T,D⟩
def xg(enc:TypeId×Value->tD)(P:Program)(W:World){α:Type}(t:TypeId)(r:Rp α):Prop:=
 P.cellsOf t=r.sz/\ ∀fuel cs x,DataW.trod enc P W 0 (fun _=>true) true fuel t cs=some x-> ∃y,r.rc (Eo W) cs y
def Jl(h:P.underlying t=some .bool)(hc:P.cellsOf t=1):xg enc P W t rB:=⟨hc,fun fuel cs x I=>by
 cases fuel with
 |zero=>simp [DataW.trod]at I
 |succ n=>
  unfold DataW.trod at I
  rw [h]at I
  split at I
  all_goals try (injections;done)
  ·exact⟨_,rfl⟩⟩
def sw{α β:Type}{f:α->Option β}: ∀{l:List α} {r:List β},l.mapM f=some r->r.length=l.length/\ ∀(i:Nat) (x:α),l[i]? =some x-> ∃y,r[i]? =some y/\f x=some y
 |[],r,h=>by
  simp at h
  subst h
  exact⟨rfl,fun i x I=>by simp at I⟩
 |a::l,r,h=>by
  rw [List.mapM_cons]at h
  cases X:f a with
  |none=>rw [X]at h;simp at h
  |some b=>
   rw [X]at h
   cases hm:l.mapM f with
   |none=>rw [hm]at h;simp at h
   |some r' =>
    rw [hm]at h
    simp at h
    subst h
    obtain⟨Y,J⟩:=sw hm
    refine⟨by simp [Y],fun i x I=>?_⟩
    cases i with
    |zero=>simp at I;subst I;exact⟨b,rfl,X⟩
    |succ i=>exact J i x (by simpa using I)
def yc{a:Addr}(h:W.cell? a=some v):a.spot=none/\ ∃c E fr,W.heap[a.block]? =some (.cells c E fr)/\c[a.off]? =some v:=by
 unfold World.cell? at h
 cases ho:W.heap[a.block]? with
 |none=>rw [ho]at h;cases h
 |some o=>
  rw [ho]at h
  cases o with
  |cells c E fr=>
   simp only at h
   by_cases hs:a.spot.isSome=true
   ·rw [bD hs]at h;cases h
   ·rw [bo hs]at h
    exact⟨by cases hq:a.spot with
     |none=>rfl
     |some s=>rw [hq]at hs;simp at hs,c,E,fr,rfl,h⟩
  |_=>simp at h
def Ci(a:Addr):a.add 0=a:=by unfold Addr.add;rfl
def GD(h:W.cells? 0 ⟨b,off,none⟩ n=some cs)(hn:0<n): ∃c E fr,W.heap[b]? =some (.cells c E fr)/\cs=(c.toList.drop off).take n:=by
 unfold World.cells? at h
 rw [bD (mC _)]at h
 obtain⟨Y,J⟩:=sw h
 obtain⟨v,_,hv⟩:=J 0 0 (by simp [hn])
 obtain⟨_,c,E,fr,Z,h4⟩:=yc hv
 refine⟨c,E,fr,by simpa [Addr.add] using Z,?_⟩
 apply BG
 intro i
 have hl:cs.length=n:=by simpa using Y
 by_cases hi:i<n
 ·obtain⟨v,h5,h6⟩:=J i i (by simp [hi])
  obtain⟨_,c',E',fr',h7,h8⟩:=yc h6
  rw [iA]at h7 h8
  have h7' :W.heap[b]? =some (.cells c' E' fr'):=h7
  have h3' :W.heap[b]? =some (.cells c E fr):=by simpa [Addr.add] using Z
  rw [h3']at h7'
  injection h7' with h7'
  injection h7' with e1
  subst e1
  rw [h5,wr hi,tW]
  simpa using h8.symm
 ·rw [zw (by omega),zw (by simp;omega)]
def HX{q:Rp α}{len:Nat}{a:Addr}{x:DataW tD×List MemPlace}(h0' :0<q.sz)(hq:xg enc P W e q)(I:(let elemAt (i:Nat):Option (DataW tD×List MemPlace):=(W.cells? 0 (a.add (i*P.cellsOf e)) (P.cellsOf e)).bind (DataW.trod enc P W 0 (fun _=>true) true n e)
   if 0<=a.block/\len<=cap/\cap<=maxLen then
    ((List.range len).mapM elemAt).bind fun elems=>
     (if(fun _=>true) a.block then(List.range (cap-len)).mapM fun j=>elemAt (len+j)else some []).map fun rest=>
      (DataW.slice (elems.map (·.1)) (rest.map (·.1)),MemPlace.row a ((elems.length+rest.length)*P.cellsOf e)++(elems++rest).flatMap (·.2))
   else none)=some x): ∃y,(gy q).rc (Eo W) [.slice (some a) len cap] y:=by
 simp only at I
 split at I
 ·rename_i hcond
  obtain⟨_,hle,hmax⟩:=hcond
  cases hm:(List.range len).mapM (fun i=>(W.cells? 0 (a.add (i*P.cellsOf e)) (P.cellsOf e)).bind (DataW.trod enc P W 0 (fun _=>true) true n e))with
  |none=>rw [hm]at I;simp at I
  |some elems=>
   obtain⟨hm1,hm2⟩:=sw hm
   rw [hq.1]at hm2
   by_cases hl0:len=0
   ·subst hl0;exact⟨[],some a,cap,rfl,mC _,hmax,.inl rfl⟩
   have hsp0:a.spot=none:=by
    obtain⟨z,_,hz⟩:=hm2 0 0 (by rw [List.getElem?_range (by omega)])
    rw [Nat.zero_mul,Ci]at hz
    cases hcs:W.cells? 0 a q.sz with
    |none=>rw [hcs]at hz;simp at hz
    |some cs1=>
     unfold World.cells? at hcs
     rw [bD (mC _)]at hcs
     obtain⟨_,g2⟩:=sw hcs
     obtain⟨v,_,hv⟩:=g2 0 0 (by simp [h0'])
     rw [Ci]at hv
     exact(yc hv).1
   have hcell: ∀i,i<len-> ∃c E fr,a.spot=none/\W.heap[a.block]? =some (.cells c E fr)/\ ∃y,q.rc (Eo W) ((c.toList.drop (a.off+i*q.sz)).take q.sz) y:=by
    intro i hi
    obtain⟨z,_,hz⟩:=hm2 i i (by simp [hi])
    cases hcs:W.cells? 0 (a.add (i*q.sz)) q.sz with
    |none=>rw [hcs]at hz;simp at hz
    |some cs1=>
     rw [hcs]at hz
     have hsp:a.spot=none:=hsp0
     obtain⟨ab,ao,az⟩:=a
     simp only at hsp
     subst hsp
     rw [iA]at hcs
     obtain⟨c,E,fr,g1,g2⟩:=GD hcs h0'
     obtain⟨y,hy⟩:=hq.2 n cs1 z hz
     exact⟨c,E,fr,rfl,g1,y,by rw [<-g2];exact hy⟩
   obtain⟨c,E,fr,hsp,V,_⟩:=hcell 0 (by omega)
   have key: ∀m,m<=len-> ∃ys:List α,ys.length=m/\qK q (Eo W) ((c.toList.drop a.off).take (m*q.sz)) ys:=by
    intro m
    induction m with
    |zero=>intro _;exact⟨[],rfl,by simp [qK]⟩
    |succ m ih=>
     intro hm'
     obtain⟨ys,hy1,hy2⟩:=ih (by omega)
     obtain⟨c',E',fr',_,hb',y,hy⟩:=hcell m (by omega)
     rw [V]at hb'
     injection hb' with hb'
     injection hb' with e1
     subst e1
     refine⟨ys++[y],by simp [hy1],?_⟩
     have hsplit:(c.toList.drop a.off).take ((m+1)*q.sz)=(c.toList.drop a.off).take (m*q.sz)++(c.toList.drop (a.off+m*q.sz)).take q.sz:=by
      rw [tN,Nat.one_mul,List.take_add,pX]
     rw [hsplit]
     exact s3 hy2 (FT.2 hy)
   obtain⟨ys,hy1,hy2⟩:=key len (iQ _)
   obtain⟨ab,ao,az⟩:=a
   simp only at hsp
   subst hsp
   exact⟨ys,some ⟨ab,ao,none⟩,cap,by rw [hy1],by omega,hmax,.inr ⟨ab,ao,c,E,fr,rfl,V,by rw [hy1];exact hy2⟩⟩
 ·cases I
def qh{q:Rp α}(h:P.underlying t=some (.slice e))(hc:P.cellsOf t=1)(h0:Nat.blt 0 q.sz=true)(hq:xg enc P W e q):xg enc P W t (gy q):=⟨hc,fun fuel cs x I=>by
 have h0' :0<q.sz:=by simpa [tA] using h0
 cases fuel with
 |zero=>simp [DataW.trod]at I
 |succ n=>
  unfold DataW.trod at I
  rw [h]at I
  split at I
  all_goals try (injections;done)
  ·exact⟨[],none,0,rfl,iQ _,mC _,.inl rfl⟩
  ·rename_i e' a len cap heq
   injection heq with e1
   injection e1 with e1
   subst e1
   exact HX h0' hq I⟩
def Nu(enc:TypeId×Value->tD)(P:Program)(W:World){α:Type}(off:Nat)(l:List (TypeId×Nat))(r:Rp α):Prop:=
 ∀(fuel:Nat) (cs:List Value),cs.length=off+r.sz->(∀f∈l,∃x,DataW.trod enc P W 0 (fun _=>true) true fuel f.1 ((cs.drop f.2).take (P.cellsOf f.1))=some x)-> ∃y,r.rc (Eo W) (cs.drop off) y
def qS{t:Nat}(h:xg enc P W t r):Nu enc P W off [(t,off)] r:=fun fuel cs hl I=>by
 obtain⟨x,I⟩:=I _ (List.mem_singleton_self _)
 simp only at I
 rw [h.1,nE (by simp;omega)]at I
 exact h.2 _ _ _ I
def eS{p:Rp α}{t off' :Nat}{l:List (TypeId×Nat)}(h:xg enc P W t p)(ho:off' =off+p.sz)(hr:Nu enc P W off' l q):Nu enc P W off ((t,off)::l) (cq p q):=fun fuel cs hl I=>by
 subst ho
 obtain⟨x,hx1⟩:=I _ (lK ..)
 simp only at hx1
 rw [h.1]at hx1
 obtain⟨y,hy⟩:=h.2 _ _ _ hx1
 obtain⟨z,hz⟩:=hr fuel cs (by rw [hl];show off+(p.sz+q.sz)=_;omega) fun f X=>I f (mZ _ X)
 exact⟨(y,z),_,_,by rw [<-pX];exact(r0 _ _).symm,hy,hz⟩
def m9{l:List (TypeId×Nat)}{p:Rp α}{f:β->α}(D:(P.underlying t).map (fun d=>match d with| .struct l=>(true,l.toList.map fun f=>(f.type,f.offset))|_=>(false,[]))=some (true,l))(hc:P.cellsOf t=p.sz)(X: ∀y,∃x,f x=y)(hl:Nu enc P W 0 l p):xg enc P W t (nI p f):=⟨hc,fun fuel cs x I=>by
 obtain⟨fs,Y,J⟩: ∃fs,P.underlying t=some (.struct fs)/\fs.toList.map (fun f=>(f.type,f.offset))=l:=by
  cases hu:P.underlying t with
  |none=>rw [hu]at D;cases D
  |some d=>
   rw [hu]at D
   cases d<;>simp at D
   exact⟨_,rfl,D⟩
 cases fuel with
 |zero=>simp [DataW.trod]at I
 |succ n=>
  unfold DataW.trod at I
  rw [Y]at I
  change (if cs.length=P.cellsOf t then(fs.toList.mapM fun f=>DataW.trod enc P W 0 (fun _=>true) true n f.type ((cs.drop f.offset).take (P.cellsOf f.type))).map (fun xs=>(DataW.agg (xs.map (·.1)),xs.flatMap (·.2)))else none)=some x at I
  split at I
  ·rename_i hlen
   cases hm:fs.toList.mapM (fun f=>DataW.trod enc P W 0 (fun _=>true) true n f.type ((cs.drop f.offset).take (P.cellsOf f.type)))with
   |none=>rw [hm]at I;simp at I
   |some r=>
    obtain⟨_,hm2⟩:=sw hm
    obtain⟨y,hy⟩:=hl n cs (by rw [hlen,hc];omega) (fun g T=>by
     rw [<-J,rC]at T
     obtain⟨f0,hf0,rfl⟩:=T
     obtain⟨i,hi⟩:=List.getElem?_of_mem hf0
     obtain⟨z,_,hz⟩:=hm2 i f0 hi
     exact⟨z,hz⟩)
    obtain⟨x',hx'⟩:=X y
    refine⟨x',?_⟩
    show p.rc _ cs (f x')
    rw [hx']
    simpa using hy
  ·cases I⟩
def Df{W' :World}(h:gH oT W S W' S'):Below W.heap.size W W' :=⟨h.os,h.tape,h.output,h.size,fun k hk=>h.heap k hk (fun h=>h)⟩
def ve(hl:laidOutB P=true){W W' :World}(V:Below W.heap.size W W'){sp:Nat->Bool}: ∀{ts:List TypeId} {vs:List Value} {ds:List (DataW tD)} {ps:List MemPlace},(∀t∈ts,P.readableRec t=true/\t<P.types.size)->
  DataW.TrodAll enc P W 0 (fun _=>true) true ts vs ds ps->(∀p∈ps,p.block<W.heap.size)->(∀p∈ps,sp p.block=true)->DataW.TrodAll enc P W' 0 sp true ts vs ds ps
 |[],[],[],_,_,h,_,_=>h
 |t::ts,v::vs,d::ds,_,hr,⟨p,q,Y,J,e⟩,hlt,hsp=>by
  subst e
  have D:=hr t (lK ..)
  exact⟨p,q,WideElems.Trod_stays hl D.1 D.2 Y (fun x I=>V.same (hlt x (BH _ I))) (fun x I=>hsp x (BH _ I)),
   ve hl V (fun t D=>hr t (mZ _ D)) J (fun x I=>hlt x (List.mem_append_right _ I)) (fun x I=>hsp x (List.mem_append_right _ I)),rfl⟩
def JZ{f:Func}{s:ChangeSpec}{apart fresh handsOn again:Bool}{W' :World}{args:Array Value}{ds gs:List (DataW tD)}{before:List MemPlace}{tb:TypeId}(hl:laidOutB P=true)(hr: ∀t∈f.params.toList,P.readableRec t=true/\t<P.types.size)(hvs:s.vars=[])(hres:f.resultTypes= #[tb])(htb:P.underlying tb=some .bool)(hW:DataW.Whole enc P f.params.toList s.vars apart W args.toList ds gs before)(hs:s.fn tD (ds++gs)={results:=[.lit (.bool true)],args:=ds})(V:Below W.heap.size W W'):
  s.post enc P f apart fresh handsOn again W args (.bool true) W' :=by
 have hW0:=hW
 have hlt:=hW.lt
 obtain⟨pa,pv,hA,hV,rfl,hz,hn⟩:=hW
 rw [hvs]at hV
 have hpv:pv=[]:=by
  cases gs with
  |nil=>exact hV
  |cons g gs=>exact hV.elim
 subst hpv
 have hlt' : ∀p∈pa,p.block<W.heap.size:=fun p hp=>hlt p (by simpa using hp)
 have hargs: ∀sp:Nat->Bool,(∀p∈pa,sp p.block=true)->DataW.TrodAll enc P W' 0 sp true f.params.toList args.toList ds pa:=fun sp hsp=>ve hl V hr hA hlt' hsp
 have hresT: ∀(b:Nat) (sp:Nat->Bool) (hd:Bool),DataW.TrodAll enc P W' b sp hd f.resultTypes.toList ((Value.bool true).resultList f.resultTypes.size) [.lit (.bool true)] []:=fun b sp hd=>by
  rw [hres]
  exact⟨[],[],⟨1,by simp [DataW.trod,htb,Value.cells]⟩,rfl,rfl⟩
 have hvT: ∀sp:Nat->Bool,DataW.TrodVars enc P W' sp s.vars (s.fn tD (ds++gs)).vars []:=fun sp=>by
  rw [hvs,hs];rfl
 have hargs' : ∀sp:Nat->Bool,(∀p∈pa,sp p.block=true)->DataW.TrodAll enc P W' 0 sp true f.params.toList args.toList (s.fn tD (ds++gs)).args pa:=fun sp hsp=>by rw [hs];exact hargs sp hsp
 have hres' : ∀(b:Nat) (sp:Nat->Bool) (hd:Bool),DataW.TrodAll enc P W' b sp hd f.resultTypes.toList ((Value.bool true).resultList f.resultTypes.size) (s.fn tD (ds++gs)).results []:=fun b sp hd=>by rw [hs];exact hresT b sp hd
 have hold: ∀p∈pa,(fun b=>decide (b<W.heap.size)) p.block=true:=fun p hp=>by simpa using hlt' p hp
 refine⟨ds,gs,pa++[],[],pa,[],hW0,hres' _ _ _,hargs' _ hold,hvT _,World.keptBut_mono (fun p hp=>⟨hp,?_⟩) (V.frame _),fun _=>?_⟩
 ·right;simpa using hp
 ·refine⟨?_,_,_,([]++pa)++[],⟨[]++pa,[],trodAll_append (hargs' _ (fun _ _=>rfl)) (hres' _ _ _),hvT _,rfl,?_,?_⟩,?_⟩
  ·intro j t r Y J
   rw [hres]at Y J
   cases j with
   |zero=>
    simp [Value.resultList]at Y J
    subst Y J
    simp [Value.okWide,htb,Cell.okWide,Cell.ok]
   |succ j=>simp at Y
  ·intro b off hp
   have hp' :MemPlace.cell b off∈pa:=by simpa using hp
   have:=hlt' _ hp'
   rw [V.frozen (p:=⟨b,off,none⟩) this]
   exact hz b off (by simpa using hp')
  ·intro ha
   have:=hn ha
   simpa using this
  ·intro p hp _
   simpa using hp
end

section
def wJ{α:Type}(r:Rp α)(ok:α->Prop):Rp α where
 sz:=r.sz
 agg:=r.agg
 rc:=fun S cs x=>r.rc S cs x/\ok x
 mono:=fun h k=>⟨r.mono h k.1,k.2⟩
 len:=fun k=>r.len k.1
 one:=fun k=>r.one k.1
 sc:=r.sc
def tH(k:IntKind)(n:Int):Prop:=k.min<=n/\n<=k.max
def RI(s:I6):Prop:=s.length<=maxLen
def NK{α:Type}(ok:α->Prop)(xs:List α):Prop:=xs.length<=maxLen/\ ∀x∈xs,ok x
def PG{α:Type}(_:α):Prop:=True
def zL(h:P.underlying t=some (.int k))(hc:P.cellsOf t=1):xg enc P W t (wJ (rI k) (tH k)):=⟨hc,fun fuel cs x I=>by
 cases fuel with
 |zero=>simp [DataW.trod]at I
 |succ n=>
  unfold DataW.trod at I
  rw [h]at I
  split at I
  all_goals try (injections;done)
  ·rename_i k1 k2 m heq
   injection heq with e
   injection e with e
   subst e
   split at I
   ·rename_i J
    obtain⟨rfl,Z⟩:=J
    simp only [Lit.wf,iX,Cr]at Z
    exact⟨m,rfl,Z⟩
   ·cases I⟩
def Jk(h:P.underlying t=some .string)(hc:P.cellsOf t=1):xg enc P W t (wJ rS RI):=⟨hc,fun fuel cs x I=>by
 cases fuel with
 |zero=>simp [DataW.trod]at I
 |succ n=>
  unfold DataW.trod at I
  rw [h]at I
  split at I
  all_goals try (injections;done)
  ·rename_i s heq
   split at I
   ·rename_i J;exact⟨s.data.toList,rfl,(show s.data.toList.length<=maxLen from(show s.size=s.data.toList.length from rfl)▸J)⟩
   ·cases I⟩
def HY(h:P.underlying t=some .bool)(hc:P.cellsOf t=1):xg enc P W t (wJ rB PG):=
 ⟨hc,fun fuel cs x I=>by obtain⟨y,hy⟩:=(Jl (enc:=enc) (W:=W) h hc).2 fuel cs x I;exact⟨y,hy,trivial⟩⟩
def Fa{α:Type}(r' r:Rp α)(ok:α->Prop):Prop:=r'.sz=r.sz/\r'.agg=r.agg/\ ∀S cs x,r'.rc S cs x->r.rc S cs x/\ok x
def kC:Fa (wJ r ok) r ok:=⟨rfl,rfl,fun _ _ _ h=>h⟩
def G8{α:Type}{r' r:Rp α}{ok:α->Prop}(h:Fa r' r ok){S:SH}: ∀{xs:List α} {cs:List Value},qK r' S cs xs->qK r S cs xs/\ ∀x∈xs,ok x
 |[],_,k=>⟨k,fun x I=>by cases I⟩
 |x::xs,_,⟨a,b,e,Y,J⟩=>by
  obtain⟨g1,g2⟩:=h.2.2 _ _ _ Y
  obtain⟨g3,g4⟩:=G8 h J
  exact⟨⟨a,b,e,g1,g3⟩,fun y hy=>by
   rcases fT.1 hy with rfl|hy
   ·exact g2
   ·exact g4 y hy⟩
def vQ{r' :Rp α}(h:Fa r' r ok):Fa (gy r') (gy r) (NK ok):=⟨rfl,rfl,fun S cs xs ⟨a,cap,e,Y,J,Z⟩=>by
 rcases Z with Z|⟨b,off,c,E,fr,e1,e2,e3⟩
 ·exact⟨⟨a,cap,e,Y,J,.inl Z⟩,by omega,fun x I=>by rw [Z]at I;cases I⟩
 ·rw [h.1]at e3
  obtain⟨g1,g2⟩:=G8 h e3
  exact⟨⟨a,cap,e,Y,J,.inr ⟨b,off,c,E,fr,e1,e2,g1⟩⟩,by omega,g2⟩⟩
def gg{p' p:Rp α}{q' :Rp β}{f:α->Prop}{g:β->Prop}(h:Fa p' p f)(k:Fa q' q g):Fa (cq p' q') (cq p q) (fun x=>f x.1/\g x.2):=
 ⟨by show p'.sz+q'.sz=p.sz+q.sz;rw [h.1,k.1],rfl,fun S cs x ⟨a,b,e,Y,J⟩=>⟨⟨a,b,e,(h.2.2 _ _ _ Y).1,(k.2.2 _ _ _ J).1⟩,(h.2.2 _ _ _ Y).2,(k.2.2 _ _ _ J).2⟩⟩
def sZ{p' p:Rp α}{f:β->α}(h:Fa p' p ok):Fa (nI p' f) (nI p f) (fun x=>ok (f x)):=
 ⟨h.1,rfl,fun S cs x k=>h.2.2 _ _ _ k⟩
def Nl{r' :Rp α}(h:xg enc P W t r')(hr:Fa r' r ok)(hag:r.agg=true){d:DataW tD}{ps:List MemPlace}(hv:DataW.Trod enc P W 0 (fun _=>true) true t v d ps)(hc:v= .agg v.cells): ∃y,(H r y).p (Eo W) v/\ok y:=by
 obtain⟨fuel,I⟩:=hv
 obtain⟨y,hy⟩:=h.2 _ _ _ I
 obtain⟨g1,g2⟩:=hr.2.2 _ _ _ hy
 exact⟨y,⟨_,by unfold Rp.val;rw [hag,bD rfl];exact hc,g1⟩,g2⟩
def De{l:Array Field}(D:P.underlying t=some (.struct l))(hv:Value.okWide P W .any base t v):v= .agg v.cells:=by
 unfold Value.okWide at hv
 rw [D]at hv
 obtain⟨cs,e,_⟩:=hv
 rw [e]
 rfl
end

section
variable{held:Bool}
end

section
variable{ty:TypeId}
end

section
variable{ty:TypeId}
def hH{N:Fr}(hag:r.agg=true)(hr: ∀S,r.rc S [v] y)(h:aE N G x (tV (.agg #[v]))):aE N G x (H r y):=fun S a X=>⟨[v],by rw [Rp.val,bD hag];exact h S a X,hr S⟩
end

section
variable{t:ι->Ty}{O2:ι->List OE}
end

section
variable{ty:TypeId}
end
section
variable{ty:TypeId}
end

def M{α:Sort _}{a:α}:a=a:=rfl
def aQ:True:=trivial
abbrev cA(x:Int):Ty:=H (rI .i64) x
abbrev gM(x:Bool):Ty:=H rB x
abbrev jq{α:Type}(l:List α):Ty:=H (rI .i64) (l.length:Int)
abbrev pm:Rp (List Int):=gy (rI .i64)
abbrev lI(l:List Int):Ty:=H (gy (rI .i64)) l
abbrev gP{α:Type}(r:Rp α)(l:List α):Ty:=H (gy r) l
abbrev sO{α:Type}(l:Option Nat)(c:Nat)(xs:List α):Ty:=tV (aK l c xs.length)
def bv: ∀{G' G:jM},G'.map (fun p=>bJ G p.1)=G'.map (fun p=>some p.2)->FH G' G
 |[],_,_=>trivial
 |(_,_)::_,_,h=>⟨(List.cons.inj h).1,bv (List.cons.inj h).2⟩

section
variable{ty:TypeId}
def m0{x:Nat}{t:Ty}(h:bJ G x=some t):bR E O G ⟨dst,.move (.tmp x),ty,pos,after,g⟩ t:=cj (D h)
def zy{x:Nat}{t:Ty}(h:bJ G x=some t):bR E O G ⟨dst,.assign (.tmp x),ty,pos,after,g⟩ t:=bz (D h)
def RP{n:Int}:bR E O G ⟨dst,.assign (.const (.int k n)),ty,pos,after,g⟩ (H (rI k) n):=bz hI
def RD{b:Bool}:bR E O G ⟨dst,.assign (.const (.bool b)),ty,pos,after,g⟩ (H rB b):=bz hB
def oI{x:α}{p:Nat}(ti:TI E.P U sz bytes agg z)(hp:bJ G p=some (bw r x))(hs:(r.sz,r.agg)=(sz,agg)):
  bR E O G ⟨dst,.load U (.tmp p),ty,pos,after,g⟩ (H r x):=ic ti (tY hs).1 (tY hs).2 (D hp)
def nG{get:α->β}{x:α}{i:Nat}{p:Nat}(X:cG E.P hg i=some (off,sz))(hq:mf r off q get)(hp:bJ G p=some (bw r x))(h0:(!(Nat.beq sz 0)&&Nat.ble (off+q.sz) r.sz)=true):bR E O G ⟨dst,.fieldAddr hg (.tmp p) i,ty,pos,after,g⟩ (bw q (get x)):=
 iN X (by cases h:Nat.beq sz 0<;>simp [h]at h0 ⊢) hq (by revert h0;cases Nat.ble (off+q.sz) r.sz<;>simp) (D hp)
def PJ{x:Nat}(hu:E.P.underlying t=some (.slice e))(I:bJ G x=some (H (gy r) xs)):
  bR E O G ⟨dst,.call ⟨.builtin .len,#[.tmp x],#[t]⟩,ty,pos,after,g⟩ (H (rI .i64) (xs.length:Int)):=j3 hu (D I)
def Bb{x:Nat}{i:Nat}{t:Ty}(hi:ts[i]? =some t)(I:bJ G x=some (tT ts)):bR E O G ⟨dst,.extract (.tmp x) i,ty,pos,after,g⟩ t:=F9 hi (D I)
def zbx{v:α}{x:Nat}(I:bJ G x=some (H r v)):bR E O G ⟨dst,.box hg (.tmp x),ty,pos,after,g⟩ (bw r v):=JN (D I)
def Px{c x:Nat}{b q:Bool}(hc:bJ G c=some (H rB b))(I:bJ G x=some (ln b (H rB q))):bR E O G ⟨dst,.pick (.tmp c) (.tmp x) (.const (.bool false)),ty,pos,after,g⟩ (H rB (b&&q)):=qN (D hc) (fun V=>dp I V)
def RO{c x:Nat}{b q:Bool}(hc:bJ G c=some (H rB b))(I:bJ G x=some (ln (!b) (H rB q))):bR E O G ⟨dst,.pick (.tmp c) (.const (.bool true)) (.tmp x),ty,pos,after,g⟩ (H rB (b||q)):=uO (D hc) (fun V=>dp I (xO V))
variable{xt yt:TypeId}{x y:Nat}{m n:Int}
def zlt(I:bJ G x=some (H (rI k) m))(hy:bJ G y=some (H (rI k) n)):bR E O G ⟨dst,.binOp .lss xt (.tmp x) (.tmp y) yt,ty,pos,after,g⟩ (H rB (decide (m<n))):=mE (D I) (D hy)
def PA{j:IntKind}(I:bJ G x=some (H (rI j) m)):bR E O G ⟨dst,.binOp .eql xt (.tmp x) (.const (.int j n)) yt,ty,pos,after,g⟩ (H rB (m==n)):=jP (D I) hI
def zni{j:IntKind}(I:bJ G x=some (H (rI j) m)):bR E O G ⟨dst,.binOp .neq xt (.tmp x) (.const (.int j n)) yt,ty,pos,after,g⟩ (H rB (m !=n)):=mn (D I) hI
def LA{y:α}{x ix:Nat}{k:IntKind}{i:Int}(hu:E.P.underlying t=some (.slice e))(ti:TI E.P e sz bytes agg z)(hsz:r.sz=sz)(I:bJ G x=some (H (gy r) xs))(hi:bJ G ix=some (H (rI k) i))(hy:cQ xs i=some y):
  bR E O G ⟨dst,.indexAddr t (.tmp x) (.tmp ix),ty,pos,after,g⟩ (bw r y):=bn hu ti hsz (D I) (D hi) hy
def RC{i:Nat}{x:Nat}{xt yt:TypeId}(hi:i<9223372036854775807)(I:bJ G x=some (H (rI .i64) (i:Int))):
  bR E O G ⟨dst,.binOp .add xt (.tmp x) (.const (.int .i64 1)) yt,ty,pos,after,g⟩ (H (rI .i64) ((i+1:Nat):Int)):=wP hi (D I) hI
def rJ{i o:Nat}{p:Nat}(n:Nat)(X:cG E.P hg i=some (off,sz))(h0:Nat.beq sz 0=false)(hp:bJ G p=some (tV (ax b o)))(he:o+off=n):bR E O G ⟨dst,.fieldAddr hg (.tmp p) i,ty,pos,after,g⟩ (tV (ax b n)):=mP (n:=n) X h0 (D hp) he
end
section
variable{l:List Oper}
def zo{ty:TypeId}{t:Ty}(hd:Nat.blt d E.N.n=true)(h:bR E O G ⟨some d,op,ty,pos,after,none⟩ t)(k:RG E ops Q l O ((d,t)::G)):
  RG E ops Q (⟨some d,op,ty,pos,after,none⟩::l) O G:=sI h hd k
def s5(n d:Nat)(r:Option Ty):Option Ty:=if Nat.blt d n then r else none
def cM{r:Option Ty}{t:Ty}(h:s5 n d r=some t):Nat.blt d n=true/\r=some t:=by
 unfold s5 at h;split at h
 case isTrue Y=>exact⟨Y,h⟩
 case isFalse=>cases h
def bu{x:Nat}{ty:TypeId}{t:Ty}(h:s5 E.N.n d (bJ G x)=some t)(k:RG E ops Q l O ((d,t)::G)):
  RG E ops Q (⟨some d,.move (.tmp x),ty,pos,after,none⟩::l) O G:=sI (cj (D (cM h).2)) (cM h).1 k
def jm{x:Nat}{ty:TypeId}{t:Ty}(h:s5 E.N.n d (bJ G x)=some t)(k:RG E ops Q l O ((d,t)::G)):
  RG E ops Q (⟨some d,.assign (.tmp x),ty,pos,after,none⟩::l) O G:=sI (bz (D (cM h).2)) (cM h).1 k
def cb{y:Code}(h:CG E Q y O G):RG E ops (Exit.then (y.wpIn (fw E.r) 0 E.P Q) Q) [] O G:=bq (aB h)
def aV{id:Nat}{l:List Oper}{y:Code}(h:RG E l.toArray (Exit.then (y.wpIn (fw E.r) 0 E.P Q) Q) l O G):CG E Q (.seq (.region id l.toArray false) y) O G:=aJ (aG h)
def o8{β:Type _}{hf h1:Option β}{r:β}{c:Nat}{x y:Code}{b:Bool}(h:(if b=true then hf else h1)=some r)(V:bJ G c=some (H rB b))(I:hf=some r->CG E Q x O G)(hy:h1=some r->CG E Q y O G):CG E Q (.cond (.tmp c) x y) O G:=
 pl (D V) (fun hc=>I (ct h hc)) (fun hc=>hy (cf h hc))
def ko{y:Code}(h:CG E Q y O G):CG E (Exit.then (y.wpIn (fw E.r) 0 E.P Q) Q) .skip O G:=cg (aB h)
def zgt{gs:Nat}{b:Bool}{ty:TypeId}{t:Ty}(hj:(ops[j]?).bind (·.dst)=some gs)(T:s5 E.N.n gs (s5 E.N.n d (bJ G gs))=some (H rB b))(h:b=true->bR E O G ⟨some d,op,ty,pos,after,some (j,true)⟩ t)(k:RG E ops Q l O ((d,ln b t)::G)):RG E ops Q (⟨some d,op,ty,pos,after,some (j,true)⟩::l) O G:=Nq hj (cM T).1 (cM (cM T).2).2 (cM (cM T).2).1 h k
def zgf{gs:Nat}{b:Bool}{ty:TypeId}{t:Ty}(hj:(ops[j]?).bind (·.dst)=some gs)(T:s5 E.N.n gs (s5 E.N.n d (bJ G gs))=some (H rB b))(h:(!b)=true->bR E O G ⟨some d,op,ty,pos,after,some (j,false)⟩ t)(k:RG E ops Q l O ((d,ln (!b) t)::G)):RG E ops Q (⟨some d,op,ty,pos,after,some (j,false)⟩::l) O G:=Nr hj (cM T).1 (cM (cM T).2).2 (cM (cM T).2).1 h k
end
def cy{α:Type _}{β:Type _}{x:Option α}{k:α->Option β}{r:β}{P:Prop}(h:x.bind k=some r)(f: ∀y,x=some y->k y=some r->P):P:=by
 obtain⟨y,Y,J⟩:=bs h;exact f y Y J
variable{u1:Ty}
section
variable{l:List Oper}{i:Nat}{t:Ty}
def zb{a b c:Bool}(h:(a&&b&&c)=true):a=true/\b=true/\c=true:=by revert h;cases a<;>cases b<;>cases c<;>simp
def Qq{x:Option α}(h:x.isNone=true):x=none:=by cases x;rfl;cases h
def Lk(h:ts[i]? =some t)(k:bR E O [] o t)(V:(dx i o&&o.guard.isNone)=true:=by exact rfl): ∃(needs:List Nd) (t:Ty),ts[i]? =some t/\oG G ts needs/\(needs.all (lM l o i))=true/\dx i o=true/\bO E O l.toArray (gO needs) o t:=
 ⟨[],t,h,trivial,rfl,(Bh.1 V).1,ac (Qq (Bh.1 V).2) k⟩
def pN(a:Nat)(h:ts[i]? =some t)(hu:tL G ts ⟨a,u,none⟩)(k:bR E O [(a,u)] o t)(V:([(⟨a,u,none⟩:Nd)].all (lM l o i)&&dx i o&&o.guard.isNone)=true:=by exact rfl): ∃(needs:List Nd) (t:Ty),ts[i]? =some t/\oG G ts needs/\(needs.all (lM l o i))=true/\dx i o=true/\bO E O l.toArray (gO needs) o t:=
 ⟨[(⟨a,u,none⟩:Nd)],t,h,⟨hu,trivial⟩,(zb V).1,(zb V).2.1,ac (Qq (zb V).2.2) k⟩
def eH(a:Nat)(j:Nat)(h:ts[i]? =some t)(hu:tL G ts ⟨a,u,(some j)⟩)(k:bR E O [(a,u)] o t)(V:([(⟨a,u,(some j)⟩:Nd)].all (lM l o i)&&dx i o&&o.guard.isNone)=true:=by exact rfl): ∃(needs:List Nd) (t:Ty),ts[i]? =some t/\oG G ts needs/\(needs.all (lM l o i))=true/\dx i o=true/\bO E O l.toArray (gO needs) o t:=
 ⟨[(⟨a,u,(some j)⟩:Nd)],t,h,⟨hu,trivial⟩,(zb V).1,(zb V).2.1,ac (Qq (zb V).2.2) k⟩
def zes(a:Nat)(j:Nat)(h:ts[i]? =some t)(hu:tL G ts ⟨a,u,(some j)⟩)(k:bO E O l.toArray [(a,u)] o t)(V:([(⟨a,u,(some j)⟩:Nd)].all (lM l o i)&&dx i o)=true:=by exact rfl): ∃(needs:List Nd) (t:Ty),ts[i]? =some t/\oG G ts needs/\(needs.all (lM l o i))=true/\dx i o=true/\bO E O l.toArray (gO needs) o t:=
 ⟨[(⟨a,u,(some j)⟩:Nd)],t,h,⟨hu,trivial⟩,(Bh.1 V).1,(Bh.1 V).2,k⟩
def tB(a:Nat)(a1:Nat)(j1:Nat)(h:ts[i]? =some t)(hu:tL G ts ⟨a,u,none⟩)(hu1:tL G ts ⟨a1,u1,(some j1)⟩)(k:bO E O l.toArray [(a,u),(a1,u1)] o t)(V:([(⟨a,u,none⟩:Nd),⟨a1,u1,(some j1)⟩].all (lM l o i)&&dx i o)=true:=by exact rfl): ∃(needs:List Nd) (t:Ty),ts[i]? =some t/\oG G ts needs/\(needs.all (lM l o i))=true/\dx i o=true/\bO E O l.toArray (gO needs) o t:=
 ⟨[(⟨a,u,none⟩:Nd),⟨a1,u1,(some j1)⟩],t,h,⟨hu,hu1,trivial⟩,(Bh.1 V).1,(Bh.1 V).2,k⟩
def gr(a:Nat)(j:Nat)(a1:Nat)(j1:Nat)(h:ts[i]? =some t)(hu:tL G ts ⟨a,u,(some j)⟩)(hu1:tL G ts ⟨a1,u1,(some j1)⟩)(k:bR E O [(a,u),(a1,u1)] o t)(V:([(⟨a,u,(some j)⟩:Nd),⟨a1,u1,(some j1)⟩].all (lM l o i)&&dx i o&&o.guard.isNone)=true:=by exact rfl): ∃(needs:List Nd) (t:Ty),ts[i]? =some t/\oG G ts needs/\(needs.all (lM l o i))=true/\dx i o=true/\bO E O l.toArray (gO needs) o t:=
 ⟨[(⟨a,u,(some j)⟩:Nd),⟨a1,u1,(some j1)⟩],t,h,⟨hu,hu1,trivial⟩,(zb V).1,(zb V).2.1,ac (Qq (zb V).2.2) k⟩
def iE(a:Nat)(j:Nat)(a1:Nat)(j1:Nat)(h:ts[i]? =some t)(hu:tL G ts ⟨a,u,(some j)⟩)(hu1:tL G ts ⟨a1,u1,(some j1)⟩)(k:bO E O l.toArray [(a,u),(a1,u1)] o t)(V:([(⟨a,u,(some j)⟩:Nd),⟨a1,u1,(some j1)⟩].all (lM l o i)&&dx i o)=true:=by exact rfl): ∃(needs:List Nd) (t:Ty),ts[i]? =some t/\oG G ts needs/\(needs.all (lM l o i))=true/\dx i o=true/\bO E O l.toArray (gO needs) o t:=
 ⟨[(⟨a,u,(some j)⟩:Nd),⟨a1,u1,(some j1)⟩],t,h,⟨hu,hu1,trivial⟩,(Bh.1 V).1,(Bh.1 V).2,k⟩
def PK(a:Nat)(j:Nat)(a1:Nat)(j1:Nat)(a2:Nat)(j2:Nat){u2:Ty}(h:ts[i]? =some t)(hu:tL G ts ⟨a,u,(some j)⟩)(hu1:tL G ts ⟨a1,u1,(some j1)⟩)(hu2:tL G ts ⟨a2,u2,(some j2)⟩)(k:bR E O [(a,u),(a1,u1),(a2,u2)] o t)(V:([(⟨a,u,(some j)⟩:Nd),⟨a1,u1,(some j1)⟩,⟨a2,u2,(some j2)⟩].all (lM l o i)&&dx i o&&o.guard.isNone)=true:=by exact rfl): ∃(needs:List Nd) (t:Ty),ts[i]? =some t/\oG G ts needs/\(needs.all (lM l o i))=true/\dx i o=true/\bO E O l.toArray (gO needs) o t:=
 ⟨[(⟨a,u,(some j)⟩:Nd),⟨a1,u1,(some j1)⟩,⟨a2,u2,(some j2)⟩],t,h,⟨hu,hu1,hu2,trivial⟩,(zb V).1,(zb V).2.1,ac (Qq (zb V).2.2) k⟩
def BI(a:Nat)(j:Nat)(a1:Nat)(j1:Nat)(a2:Nat)(j2:Nat){u2:Ty}(h:ts[i]? =some t)(hu:tL G ts ⟨a,u,(some j)⟩)(hu1:tL G ts ⟨a1,u1,(some j1)⟩)(hu2:tL G ts ⟨a2,u2,(some j2)⟩)(k:bO E O l.toArray [(a,u),(a1,u1),(a2,u2)] o t)(V:([(⟨a,u,(some j)⟩:Nd),⟨a1,u1,(some j1)⟩,⟨a2,u2,(some j2)⟩].all (lM l o i)&&dx i o)=true:=by exact rfl): ∃(needs:List Nd) (t:Ty),ts[i]? =some t/\oG G ts needs/\(needs.all (lM l o i))=true/\dx i o=true/\bO E O l.toArray (gO needs) o t:=
 ⟨[(⟨a,u,(some j)⟩:Nd),⟨a1,u1,(some j1)⟩,⟨a2,u2,(some j2)⟩],t,h,⟨hu,hu1,hu2,trivial⟩,(Bh.1 V).1,(Bh.1 V).2,k⟩
end
end Go.Proofs.YtbmmihfagmchaaaGreat

