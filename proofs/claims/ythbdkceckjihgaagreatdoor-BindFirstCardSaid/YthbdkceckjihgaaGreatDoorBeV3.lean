/- cu of this claim: W33, W34, W35, W36, W37, W38, W39, W40, W48, W50, W51, W41, W42, W43, W21, W27, W45, W46, W47, W52, W53, W56, W57. -/
import Derived.Test.YthbdkceckjihgaaGreatDoorBeV2
import Derived.Lib.Bytealg
import Derived.Maps.Range
import Derived.Laws.IdiomRangeMap
import Derived.Test.YthbdkceckjihgaaGreatDoorBeV1
import Derived.Laws.BytesString
import Derived.Below
import Derived.ProofKit
import Derived.OpenShut
import Derived.LaidMore
import Derived.Laws.Externs
set_option linter.all false
namespace Go.Proofs.YthbdkceckjihgaaGreatDoor
open Go

def v7(N:Nat):List Nat->List Oper->Bool
 |_,[]=>true
 |seen,o::rest=>match o.dst with
  |some d=>Nat.blt d N&& !(seen.any (Nat.beq d))&&v7 N (d::seen) rest
  |none=>v7 N seen rest
variable{N:Fr}{β:Type}{d:Nat}{j:Int}{o:Oper}{p:Operand}{q:Rp β}
def BW{N:Nat}(l:List Oper): ∀(seen:List Nat),v7 N seen l=true->
  (∀o:Oper,o∈l-> ∀d,o.dst=some d->d<N/\d∉seen)/\ ∀(i j:Nat) (o p:Oper) (d:Nat),l[i]? =some o->l[j]? =some p->o.dst=some d->p.dst=some d->i=j:=by
 induction l with
 |nil=>exact fun _ _=>⟨fun _ h=>(by cases h),fun _ _ _ _ _ h=>(by simp at h)⟩
 |cons o l ih=>
  intro seen h
  unfold v7 at h
  cases hd:o.dst with
  |none=>
   rw [hd]at h
   obtain⟨A,D⟩:=ih seen h
   refine⟨fun q hq d hqd=>?_,fun i j p q d hi hj hp hq=>?_⟩
   ·rcases eW.1 hq with rfl|hq
    ·rw [hd]at hqd;cases hqd
    ·exact A q hq d hqd
   ·cases i with
    |zero=>simp at hi;subst hi;rw [hd]at hp;cases hp
    |succ i=>
     cases j with
     |zero=>simp at hj;subst hj;rw [hd]at hq;cases hq
     |succ j=>rw [D i j p q d (by simpa using hi) (by simpa using hj) hp hq]
  |some d0=>
   rw [hd]at h
   simp only [gU,vL,vO]at h
   obtain⟨⟨g1,g2⟩,g3⟩:=h
   obtain⟨A,D⟩:=ih (d0::seen) g3
   have hns:d0∉seen:=fun hm=>by
    have:seen.any (Nat.beq d0)=true:=Cq.2 ⟨d0,hm,Nat.beq_refl d0⟩
    rw [this]at g2;cases g2
   refine⟨fun q hq d hqd=>?_,fun i j p q d hi hj hp hq=>?_⟩
   ·rcases eW.1 hq with rfl|hq
    ·rw [hd]at hqd;cases hqd;exact⟨g1,hns⟩
    ·obtain⟨k1,k2⟩:=A q hq d hqd
     exact⟨k1,fun hm=>k2 (ma _ hm)⟩
   ·cases i with
    |zero=>
     cases j with
     |zero=>rfl
     |succ j=>
      simp at hi;subst hi
      rw [hd]at hp;cases hp
      exact absurd (lL ..) (A q (qD (by simpa using hj)) d0 hq).2
    |succ i=>
     cases j with
     |zero=>
      simp at hj;subst hj
      rw [hd]at hq;cases hq
      exact absurd (lL ..) (A p (qD (by simpa using hi)) d0 hp).2
     |succ j=>rw [D i j p q d (by simpa using hi) (by simpa using hj) hp hq]
def I1:List Oper->List Ty->lh->lh
 |o::l,t::ts,G=>match o.dst with
  |some d=>(d,t)::I1 l ts G
  |none=>I1 l ts G
 |_,_,G=>G
variable{G:lh}{e:TypeId}{k:IntKind}{t:TypeId}{ts:List Ty}{u:Value}
def Gj(l:List Oper): ∀(ts:List Ty) (k:Nat) (t:Ty),ts.length=l.length->look (I1 l ts G) k=some t->
  (∃(j:Nat) (o:Oper),l[j]? =some o/\o.dst=some k/\ts[j]? =some t)\/(look G k=some t/\ ∀o:Oper,o∈l->o.dst≠some k):=by
 induction l with
 |nil=>
  intro ts k t hl h
  have:ts=[]:=vE (by simpa using hl)
  subst this
  exact .inr ⟨h,fun _ h=>(by cases h)⟩
 |cons o l ih=>
  intro ts k t hl h
  cases ts with
  |nil=>simp at hl
  |cons u ts=>
   unfold I1 at h
   have hl' :ts.length=l.length:=by simpa using hl
   have lift:((∃(j:Nat) (p:Oper),l[j]? =some p/\p.dst=some k/\ts[j]? =some t)\/(look G k=some t/\ ∀p:Oper,p∈l->p.dst≠some k))->o.dst≠some k->
     (∃(j:Nat) (p:Oper),(o::l)[j]? =some p/\p.dst=some k/\(u::ts)[j]? =some t)\/(look G k=some t/\ ∀p:Oper,p∈o::l->p.dst≠some k):=by
    rintro(⟨j,p,A,D,h3⟩|⟨A,D⟩) hne
    ·exact .inl ⟨j+1,p,by simpa using A,D,by simpa using h3⟩
    ·exact .inr ⟨A,fun p hp=>(eW.1 hp).elim (fun e=>by subst e;exact hne) (D p)⟩
   cases hd:o.dst with
   |none=>
    rw [hd]at h
    exact lift (ih ts k t hl' h) (by rw [hd];exact fun e=>by cases e)
   |some d=>
    rw [hd]at h
    simp only at h
    unfold look at h
    by_cases H:Nat.beq d k=true
    ·rw [H]at h
     have:=nU H
     subst this
     have e:u=t:=by simpa using h
     subst e
     exact .inl ⟨0,o,rfl,hd,rfl⟩
    ·rw [AP]at H
     rw [H]at h
     refine lift (ih ts k t hl' h) ?_
     rw [hd]
     intro e
     have:d=k:=oD e
     subst this
     simp at H
abbrev TS:=List Nat×(List OI->Ty)
def TS.at(p:TS)(σ:Nat->OI):Ty:=p.2 (p.1.map σ)
def tc(t:Ty):TS:=([],fun _=>t)
def PD(Ss:List ((Nat->OI)->List OE))(c:Nat)(σ:Nat->OI):List OE:=match Ss[c]? with|some f=>f σ|none=>[]
structure NS where
 slot:Nat
 ty:(Nat->OI)->Ty
 src:Option Nat
def NS.at(n:NS)(σ:Nat->OI):Nd:=⟨n.slot,n.ty σ,n.src⟩
def TJ(G:lh)(ts:List TS)(n:NS):Prop:=
 match n.src with
 |some j=> ∀σ,(ts[j]?).map (fun p=>p.at σ)=some (n.ty σ)
 |none=> ∀σ,look G n.slot=some (n.ty σ)
def vB(G:lh)(ts:List TS):List NS->Prop
 |[]=>True
 |n::l=>TJ G ts n/\vB G ts l
variable{n:Nat}
def vB.mem{ts:List TS}: ∀{l:List NS},vB G ts l-> ∀n∈l,TJ G ts n
 |_::_,⟨h,_⟩,_,.head _=>h
 |_::_,⟨_,h⟩,_,.tail _ hm=>vB.mem h _ hm
def vq(l:List NS)(σ:Nat->OI):lh:=iR (l.map (·.at σ))
def RO(ts:List TS)(σ:Nat->OI):List Ty:=ts.map fun p=>p.at σ
def O6(L:List Oper)(es:List Bool)(i:Nat)(p:TS):Bool:=p.1.all fun k=>(es[k]?).getD false&&(Nat.beq k i||md L L.length i k)
def UE(L:List Oper)(es:List Bool)(i lo hi:Nat):Bool:=
 Nat.ble lo (fS es es.length)&&(List.range es.length).all fun k=> !((es[k]?).getD false)||((Nat.ble lo (fS es k)||md L L.length i k)&&(Nat.blt (fS es k) hi||md L L.length k i))
def DS(E:En)(G:lh)(L:List Oper)(ts:List TS)(Ss:List ((Nat->OI)->List OE))(es0:List Bool):Nat->Nat->List Oper->List Bool->Prop
 |_,_,[],_=>True
 |i,c,o::rest,false::es=>(∃(needs:List NS) (t:TS) (lo hi:Nat),ts[i]? =some t/\vB G ts needs/\(needs.all fun n=>nW L o i (n.at fun _=>nj))=true/\d6 i o=true/\O6 L es0 i t=true/\UE L es0 i lo hi=true/\o.dst.isSome=true/\
   ∀c σ,lo<=c->c<=hi->be E (PD Ss c σ) L.toArray (vq needs σ) o (t.at σ))/\DS E G L ts Ss es0 (i+1) c rest es
 |i,c,o::rest,true::es=>(∃(needs:List NS) (t:TS),ts[i]? =some t/\vB G ts needs/\(needs.all fun n=>nW L o i (n.at fun _=>nj))=true/\d6 i o=true/\O6 L es0 i t=true/\
   ∀σ,iN E L.toArray (PD Ss c σ) (vq needs σ) o (fun x=>PD Ss (c+1) (upd σ i x)) (fun x=>t.at (upd σ i x)))/\DS E G L ts Ss es0 (i+1) (c+1) rest es
 |_,_,_::_,[]=>False
variable{E:En}{L:List Oper}{Ss:List ((Nat->OI)->List OE)}{c:Code}{es:List Bool}{lo:Int}{α:Type}{r:Rp α}{x:Operand}{σ:Nat->OI}
def DS.get{ts:List TS}{es0:List Bool}: ∀(r:List Oper) (es:List Bool) (k c:Nat),DS E G L ts Ss es0 k c r es-> ∀(j:Nat) (o:Oper),r[j]? =some o->
    ∃e,es[j]? =some e/\ ∃(needs:List NS) (t:TS),ts[k+j]? =some t/\vB G ts needs/\(needs.all fun n=>nW L o (k+j) (n.at fun _=>nj))=true/\d6 (k+j) o=true/\O6 L es0 (k+j) t=true/\
      (match e with
       |false=>o.dst.isSome=true/\ ∃lo hi,UE L es0 (k+j) lo hi=true/\ ∀c σ,lo<=c->c<=hi->be E (PD Ss c σ) L.toArray (vq needs σ) o (t.at σ)
       |true=> ∀σ,iN E L.toArray (PD Ss (c+fS es j) σ) (vq needs σ) o (fun x=>PD Ss (c+fS es j+1) (upd σ (k+j) x)) (fun x=>t.at (upd σ (k+j) x))):=by
  intro r
  induction r with
  |nil=>intro es k c _ j o h;simp at h
  |cons p r ih=>
    intro es k c h j o ho
    cases es with
    |nil=>exact h.elim
    |cons e es=>
      cases e with
      |false=>
        obtain⟨⟨needs,t,lo,hi,g1,g2,g3,g4,g5,g6,g7,g8⟩,D⟩:=h
        cases j with
        |zero=>
          simp at ho;subst ho
          exact⟨false,rfl,needs,t,g1,g2,g3,g4,g5,g7,lo,hi,g6,g8⟩
        |succ j=>
          obtain⟨e',g1,g2⟩:=ih es (k+1) _ D j o (by simpa using ho)
          refine⟨e',by simpa using g1,?_⟩
          rw [show k+1+j=k+(j+1)from by omega]at g2
          have e1:c+fS (false::es) (j+1)=c+fS es j:=by simp [fS]
          rw [e1];exact g2
      |true=>
        obtain⟨A,D⟩:=h
        cases j with
        |zero=>
          simp at ho;subst ho
          exact⟨true,rfl,A⟩
        |succ j=>
          obtain⟨e',g1,g2⟩:=ih es (k+1) _ D j o (by simpa using ho)
          refine⟨e',by simpa using g1,?_⟩
          rw [show k+1+j=k+(j+1)from by omega]at g2
          have e1:c+fS (true::es) (j+1)=c+1+fS es j:=by simp [fS];omega
          rw [e1];exact g2
structure Uq(E:En)(G:lh)(l:List Oper)(ts:List TS)(Ss:List ((Nat->OI)->List OE))(es:List Bool)(done:Array Bool)(a:Act)(w:World)(S:SH)(σ:Nat->OI)(c:Nat):Prop where
 ext:jl E.B E.w0 E.S0 w S
 sat:kp w S
 own:cN E.base E.B w S (PD Ss c σ)
 size:a.tmps.size=E.N.n
 defers:a.defers=E.N.ds
 dsz:done.size=l.length
 down: ∀j o,l[j]? =some o->done.getD j false=true-> ∀e∈o.after,Region.binds .any e=true->done.getD e.on false=true
 old: ∀k t,look G k=some t->(∀j o,l[j]? =some o->done.getD j false=true->o.dst≠some k)->t.p S (a.tmps.getD k undef)
 new: ∀j o d p,l[j]? =some o->done.getD j false=true->o.dst=some d->ts[j]? =some p->(p.at σ).p S (a.tmps.getD d undef)
 deps: ∀j p,done.getD j false=true->ts[j]? =some p-> ∀k∈p.1,done.getD k false=true
 chain: ∀k,es[k]? =some true->(done.getD k false=true↔fS es k<c)
variable{S S' :SH}{a:Act}{b:Nat}{done:Array Bool}{f:FuncId}{κ:Type}{m:List (κ×β)}{v:Value}{w w' :World}
section
variable{ts:List TS}
def Uq.need{c:Nat}(h:Uq E G L ts Ss es done a w S σ c){i:Nat}(hi:L[i]? =some o)(hun:done.getD i true=false)(hwait: ∀e∈o.after,Region.binds .any e=true->done.getD e.on false=true){needs:List NS}(A:vB G ts needs)(D:(needs.all fun n=>nW L o i (n.at fun _=>nj))=true):cu E.N S a (vq needs σ):=by
 have hlt:i<done.size:=by rw [h.dsz];exact(qB.1 hi).1
 have hun' :done.getD i false=false:=by
  simp [hlt]at hun ⊢;exact hun
 refine⟨h.size,h.defers,?_⟩
 have key: ∀n∈needs,(n.ty σ).p S (a.tmps.getD n.slot undef):=by
  intro n hn
  have hs:=mo.1 D n hn
  have ho:=A.mem n hn
  unfold nW NS.at at hs
  unfold TJ at ho
  cases hsrc:n.src with
  |some j=>
   rw [hsrc]at hs ho
   simp only [gU]at hs
   obtain⟨hs1,hs2⟩:=hs
   cases hj:L[j]? with
   |none=>rw [hj]at hs1;cases hs1
   |some p=>
    rw [hj]at hs1
    cases hd:p.dst with
    |none=>simp only [hd]at hs1;cases hs1
    |some d=>
     simp only [hd]at hs1
     have hd' :=nU hs1
     subst hd'
     have hdone:done.getD j false=true:=by
      unfold BS at hs2
      obtain⟨e,he0,H⟩:=Cq.1 hs2
      have he:e∈o.after:=by simpa using he0
      simp only [gU]at H
      have:=hwait e he H.2
      rwa [nU H.1]at this
     have hm:=ho σ
     cases hf:ts[j]? with
     |none=>rw [hf]at hm;simp at hm
     |some f=>
      rw [hf]at hm
      have e:f.at σ=n.ty σ:=by simpa using hm
      rw [<-e]
      exact h.new j p n.slot f hj hdone hd hf
  |none=>
   rw [hsrc]at hs ho
   refine h.old _ _ (ho σ) fun j p hj hdone hd=>?_
   have:=mo.1 hs p (qD hj)
   simp only [hd,Nat.beq_refl,oI,yD]at this
   unfold BS at this
   obtain⟨e,he0,H⟩:=Cq.1 this
   have he:e∈p.after:=by simpa using he0
   simp only [gU]at H
   have h3:=h.down j p hj hdone e he H.2
   rw [nU H.1]at h3
   rw [h3]at hun'
   cases hun'
 clear A D
 intro k t hk
 unfold vq at hk
 induction needs with
 |nil=>simp [iR,look]at hk
 |cons n needs ih=>
  simp only [qT]at hk
  unfold iR look at hk
  by_cases H:Nat.beq n.slot k=true
  ·have hb' :Nat.beq (n.at σ).slot k=true:=H
   rw [hb']at hk
   have:=nU H
   subst this
   have h9:some (n.at σ).ty=some t:=by simpa using hk
   have e:n.ty σ=t:=oD h9
   rw [<-e]
   exact key n (lL ..)
  ·rw [AP]at H
   have hb' :Nat.beq (n.at σ).slot k=false:=H
   rw [hb']at hk
   exact ih (fun m hm=>key m (ma _ hm)) hk
def Uq.step{σ' :Nat->OI}{c c' :Nat}(h:Uq E G L ts Ss es done a w S σ c){i:Nat}{p0:TS}{C:Nat->Prop}(hi:L[i]? =some o)(hdN: ∀d,o.dst=some d->d<E.N.n)(hs2: ∀d,o.dst=some d-> ∀j p,L[j]? =some p->done.getD j false=true->p.dst=some d->i=j)(hwait: ∀e∈o.after,Region.binds .any e=true->done.getD e.on false=true)(M:ts[i]? =some p0)(hun:done.getD i true=false)(hdep: ∀k∈p0.1,k=i\/done.getD k false=true)(hext:jl C w S w' S')(hC: ∀b,C b->E.base<=b\/E.B b)(hsat:kp w' S')(hown:cN E.base E.B w' S' (PD Ss c' σ'))(hσ: ∀k,k≠i->σ' k=σ k)(hv:(p0.at σ').p S' v)(hch: ∀k,es[k]? =some true->((done.setIfInBounds i true).getD k false=true↔fS es k<c')):
  Uq E G L ts Ss es (done.setIfInBounds i true) (a.put o.dst v) w' S' σ' c' :=by
 have hlt:i<done.size:=by rw [h.dsz];exact(qB.1 hi).1
 have hset: ∀j,(done.setIfInBounds i true).getD j false=true->j=i\/done.getD j false=true:=fun j hj=>by
  by_cases hij:i=j
  ·exact .inl hij.symm
  ·rw [vf false hij]at hj;exact .inr hj
 have hseti:(done.setIfInBounds i true).getD i false=true:=by simp [hlt]
 have hun' :done.getD i false=false:=by simp [hlt]at hun ⊢;exact hun
 have hput: ∀k,(∀d,o.dst=some d->d≠k)->(a.put o.dst v).tmps.getD k undef=a.tmps.getD k undef:=fun k hk=>by
  cases hd:o.dst with
  |none=>rfl
  |some d=>
   have hda:d<a.tmps.size:=by rw [h.size];exact hdN d hd
   rw [sO hda,bv (hk d hd)]
 refine⟨h.ext.step hext hC,hsat,hown,?_,?_,by simp [h.dsz],fun j p hj hdone e he H=>?_,fun k u hk hno=>?_,fun j p d' u hj hdone hd' hu=>?_,fun j u hj hu k hk=>?_,hch⟩
 ·cases o.dst with
  |none=>exact h.size
  |some d=>simp [Act.put,h.size]
 ·cases o.dst with
  |none=>exact h.defers
  |some d=>exact h.defers
 ·rcases hset j hdone with rfl|hj'
  ·rw [hi]at hj
   have:o=p:=by simpa using hj
   subst this
   exact xJ (hwait e he H)
  ·exact xJ (h.down j p hj hj' e he H)
 ·rw [hput k fun d hd e=>hno i o hi hseti (by rw [hd,e])]
  exact u.mono hext.keep (h.old k u hk fun j p hj hdone=>hno j p hj (xJ hdone))
 ·by_cases hij:j=i
  ·subst hij
   rw [hi]at hj
   have:o=p:=by simpa using hj
   subst this
   have hda:d' <a.tmps.size:=by rw [h.size];exact hdN d' hd'
   rw [hd',sO hda,bD rfl]
   rw [M]at hu
   have:p0=u:=by simpa using hu
   subst this
   exact hv
  ·have hj' :=(hset j hdone).resolve_left hij
   rw [hput d' fun d hd e=>by subst e;exact hij (hs2 d hd j p hj hj' hd').symm]
   have e1:u.at σ' =u.at σ:=congrArg u.2 (Ih fun k hk=>hσ k fun e=>by
     subst e
     rw [h.deps j u hj' hu k hk]at hun';cases hun')
   rw [e1]
   exact Ty.mono _ hext.keep (h.new j p d' u hj hj' hd' hu)
 ·rcases hset j hj with rfl|hj'
  ·rw [M]at hu
   have:p0=u:=by simpa using hu
   subst this
   rcases hdep k hk with rfl|h'
   ·exact hseti
   ·exact xJ h'
  ·exact xJ (h.deps j u hj' hu k hk)
end
variable{tV:Exit->Act->World->Prop}
def Ip{l t:List Oper}{ts:List TS}(hsl:v7 E.N.n [] l=true)(hlen:ts.length=l.length)(hesl:es.length=l.length)(hd:DS E G (l++t) ts Ss es 0 0 l es)(hch:LH (l++t) es=true)(M:yh (l++t) l.length t.length=true)(hQ: ∀a w S σ,St E (PD Ss (fS es es.length) σ) (I1 l (RO ts σ) G) a w S->wpListIn (fw E.r) 0 E.P (l++t).toArray tV t a w):
  ∀(fuel:Nat) (done:Array Bool) (a:Act) (w:World) (S:SH) (σ:Nat->OI) (c:Nat),kb done=fuel->(∀j,l.length<=j->done.getD j false=false)->c<=fS es es.length->Uq E G (l++t) ts Ss es done a w S σ c->wpAnyIn (fw E.r) 0 E.P .any (l++t).toArray tV fuel done a w:=by
 have hL1: ∀i o,i<l.length->(l++t)[i]? =some o->l[i]? =some o:=fun i o hi h=>by rwa [zG hi]at h
 have hL2: ∀i o,l[i]? =some o->(l++t)[i]? =some o:=fun i o h=>by rw [zG (qB.1 h).1];exact h
 have htail: ∀m o,l.length<=m->(l++t)[m]? =some o->uZ (l++t) m=true/\d6 m o=true:=fun m o hm ho=>by
  have hml:m<(l++t).length:=(qB.1 ho).1
  rw [mV]at hml
  unfold yh at M
  have:=mo.1 M (m-l.length) (by simp;omega)
  rw [show l.length+(m-l.length)=m from by omega,ho]at this
  simp only [gU]at this
  exact⟨this.1,this.2.1⟩
 have hget:=fun i o (hi:l[i]? =some o)=>DS.get l es 0 0 hd i o hi
 have hedge: ∀i o,(l++t)[i]? =some o->d6 i o=true:=fun i o hi=>by
  rcases mb i l.length with h|h
  ·obtain⟨_,_,_,_,_,_,_,h,_⟩:=hget i o (hL1 i o h hi)
   simpa using h
  ·exact(htail i o h hi).2
 obtain⟨hs1,hs2⟩:=BW l [] hsl
 have fin: ∀fuel done a w S σ c,kb done=fuel->(∀j,l.length<=j->done.getD j false=false)->c<=fS es es.length->Uq E G (l++t) ts Ss es done a w S σ c->(∀i,i<l.length->done.getD i false=true)->wpAnyIn (fw E.r) 0 E.P .any (l++t).toArray tV fuel done a w:=by
  intro fuel done a w S σ c hu hfree hcle h hall
  have hcc:c=fS es es.length:=by
   rcases mb c (fS es es.length)with hlt|hge
   ·obtain⟨i,A,D,h3⟩:=va hlt
    have:=(h.chain i D).1 (hall i (by omega))
    omega
   ·omega
  subst hcc
  refine yL (n:=l.length) (fun m o hm ho=>(htail m o hm ho).1) hedge t l.length done fuel a w (eO _) (by simp) h.dsz (fun j hj=>⟨fun hjd=>?_,fun hlt=>hall j hlt⟩) hu
   (hQ a w S σ ⟨h.ext,h.sat,h.own,h.size,h.defers,fun j u hj=>?_⟩)
  ·rcases mb j l.length with h' |h'
   ·exact h'
   ·rw [hfree j h']at hjd;cases hjd
  ·rcases Gj l (RO ts σ) j u (by unfold RO;rw [xX];exact hlen) hj with⟨i,o,A,D,h3⟩|⟨A,D⟩
   ·unfold RO at h3
    rw [FK]at h3
    cases hf:ts[i]? with
    |none=>rw [hf]at h3;simp at h3
    |some f=>
     rw [hf]at h3
     have e:f.at σ=u:=by simpa using h3
     rw [<-e]
     exact h.new i o j f (hL2 i o A) (hall i (qB.1 A).1) D hf
   ·refine h.old j u A fun i o ho hdn=>?_
    rcases mb i l.length with h' |h'
    ·exact D o (qD (hL1 i o h' ho))
    ·rw [hfree i h']at hdn;cases hdn
 have lower: ∀done a w S σ c i,(∀j,l.length<=j->done.getD j false=false)->Uq E G (l++t) ts Ss es done a w S σ c->i∈Region.ready .any (l++t).toArray done->l.length<=i-> ∀j,j<l.length->done.getD j false=true:=by
  intro done a w S σ c i hfree h hi hge j hj
  obtain⟨hun,p,hp,hwait⟩:=rK.1 hi
  have hp' :(l++t)[i]? =some p:=by simpa using hp
  have hcov:=(htail i p hge hp').1
  unfold uZ at hcov
  have hre:=mo.1 hcov j (by simp;omega)
  exact fI h.down _ i j (fun q hq e he H=>by
   have:q=p:=by rw [hp']at hq;simpa using hq.symm
   subst this
   exact hwait e he H) hre
 have hchain: ∀i j,j<i->es[i]? =some true->es[j]? =some true->md (l++t) (l++t).length i j=true:=fun i j hij A D=>by
  unfold LH at hch
  have hil:i<es.length:=(qB.1 A).1
  have:=mo.1 (mo.1 hch i (by simpa using hil)) j (by simpa using hij)
  rw [A,D]at this
  simpa using this
 intro fuel
 induction fuel with
 |zero=>
  intro done a w S σ c hu hfree hcle h
  exact fin 0 done a w S σ c hu hfree hcle h fun i hi=>sI hu (by rw [h.dsz,mV];omega)
 |succ fuel ih=>
  intro done a w S σ c hu hfree hcle h
  by_cases hall: ∀i,i<l.length->done.getD i false=true
  ·exact fin _ done a w S σ c hu hfree hcle h hall
  have hready0: ∀m i,i<m->i<l.length->Region.ready .any (l++t).toArray done=[]->done.getD i false=true:=by
   intro m
   induction m with
   |zero=>intro i h;omega
   |succ m ihm=>
    intro i him hil hr
    have his:i<done.size:=by rw [h.dsz,mV];omega
    by_cases hdn:done.getD i true=true
    ·rw [<-m9 his];exact hdn
    ·exfalso
     obtain⟨o,ho⟩: ∃o,(l++t)[i]? =some o:=⟨l[i],hL2 i _ (jA hil)⟩
     have hmem:i∈Region.ready .any (l++t).toArray done:=by
      rw [rK]
      refine⟨by simpa using hdn,o,by simpa using ho,fun e he H=>?_⟩
      have:=hedge i o ho
      unfold d6 at this
      have:=mo.1 this e (by simpa using he)
      simp only [H,oI,yD,vL]at this
      exact ihm e.on (by omega) (by omega) hr
     rw [hr]at hmem;cases hmem
  refine⟨fun hr=>absurd (fun i hi=>hready0 (i+1) i (by omega) hi hr) hall,fun i hi=>?_⟩
  have hil:i<l.length:=by
   rcases mb i l.length with h' |h'
   ·exact h'
   ·exact absurd (lower done a w S σ c i hfree h hi h') hall
  obtain⟨hun,o,ho,hwait⟩:=rK.1 hi
  have ho' :(l++t)[i]? =some o:=by simpa using ho
  have hol:=hL1 i o hil ho'
  obtain⟨e,he,needs,u,A,D,h3,_,h4,h5⟩:=hget i o hol
  rw [pz]at A h3 h4
  have hF:=h.need ho' hun hwait D h3
  have his:i<done.size:=by rw [h.dsz,mV];omega
  have hun' :done.getD i false=false:=by rw [<-m9 his];exact hun
  have hu' :kb (done.setIfInBounds i true)=fuel:=by have:=pG hun;omega
  have huq: ∀d,o.dst=some d-> ∀j p,(l++t)[j]? =some p->done.getD j false=true->p.dst=some d->i=j:=fun d hdd j p hj hjd hpd=>by
   rcases mb j l.length with h' |h'
   ·exact hs2 i j o p d hol (hL1 j p h' hj) hdd hpd
   ·rw [hfree j h']at hjd;cases hjd
  have hfree' : ∀j,l.length<=j->(done.setIfInBounds i true).getD j false=false:=fun j hj=>by
   rw [vf false (by omega)];exact hfree j hj
  have hbl:E.base<=w.heap.size:=h.ext.size
  have hwaits: ∀q,(l++t)[i]? =some q-> ∀e∈q.after,Region.binds .any e=true->done.getD e.on false=true:=fun q hq e he H=>by
   have:q=o:=by rw [ho']at hq;simpa using hq.symm
   subst this
   exact hwait e he H
  have hdpp: ∀k∈u.1,k=i\/done.getD k false=true:=fun k hk=>by
   have:=mo.1 h4 k hk
   simp only [gU,vN]at this
   rcases this.2 with H|H
   ·exact .inl (nU H)
   ·exact .inr (fI h.down _ i k hwaits H)
  have hdNN: ∀d,o.dst=some d->d<E.N.n:=fun d hd=>(hs1 o (qD hol) d hd).1
  unfold wpOpIn
  rw [ho]
  show if _ then _ else _
  cases e with
  |false=>
   simp only at h5
   obtain⟨hdS,lo,hi',hwin,h5⟩:=h5
   rw [pz]at hwin
   obtain⟨d,hdd⟩:=Option.isSome_iff_exists.1 hdS
   have hdN:=(hs1 o (qD hol) d hdd).1
   unfold UE at hwin
   rw [gU]at hwin
   obtain⟨hw1,hw2⟩:=hwin
   have hw1' :=qE hw1
   have hwk: ∀k,es[k]? =some true->(Nat.ble lo (fS es k)=true\/md (l++t) (l++t).length i k=true)/\(Nat.blt (fS es k) hi' =true\/md (l++t) (l++t).length k i=true):=fun k hk=>by
    have hkl:k<es.length:=(qB.1 hk).1
    have:=mo.1 hw2 k (by simpa using hkl)
    rw [hk]at this
    simpa using this
   have hlo:lo<=c:=by
    rcases mb c lo with hlt|hge
    ·exfalso
     obtain⟨k,hk1,hk2,hk3⟩:=va (es:=es) (c:=c) (k:=es.length) (by omega)
     rcases(hwk k hk2).1 with H|H
     ·have:=qE H;omega
     ·have:=(h.chain k hk2).1 (fI h.down _ i k hwaits H)
      omega
    ·exact hge
   have hhi:c<=hi' :=by
    rcases mb hi' c with hlt|hge
    ·exfalso
     obtain⟨k,hk1,hk2,hk3⟩:=va (es:=es) (c:=hi') (k:=es.length) (by omega)
     rcases(hwk k hk2).2 with H|H
     ·simp only [vL]at H;omega
     ·have hkd:done.getD k false=true:=(h.chain k hk2).2 (by omega)
      have:=fI h.down _ k i (fun q hq e he H=>h.down k q hq hkd e he H) H
      rw [this]at hun';cases hun'
    ·exact hge
   have h6:=h5 c σ hlo hhi a w S h.sat h.own hF
   have hch' : ∀k,es[k]? =some true->((done.setIfInBounds i true).getD k false=true↔fS es k<c):=fun k hk=>by
    have hne:i≠k:=fun e=>by subst e;rw [he]at hk;cases hk
    rw [vf false hne];exact h.chain k hk
   by_cases hw:Region.wanted o (yielded (l++t).toArray a.tmps)=true
   ·rw [bD hw]at h6 ⊢
    refine jZ (fun a' w' ⟨v,S',ha,V,hs,hv⟩=>?_) h6
    subst ha
    exact ih _ _ _ S' _ c hu' hfree' hcle (h.step ho' hdNN huq hwait A hun hdpp V (fun _ H=>H.elim) hs (h.own.ext0 V) (fun _ _=>rfl) hv hch')
   ·rw [bv hw]at h6 ⊢
    exact⟨fun _ _=>trivial,ih _ _ _ S _ c hu' hfree' hcle (h.step ho' hdNN huq hwait A hun hdpp (jl.refl sR _ _) (fun _ H=>H.elim) h.sat h.own (fun _ _=>rfl) h6 hch')⟩
  |true=>
   simp only [pz]at h5
   -- it is the next one of the chain
   have hca:fS es i=c:=by
    have hn: ¬fS es i<c:=fun hlt=>by rw [(h.chain i he).2 hlt]at hun';cases hun'
    rcases mb c (fS es i)with hlt|hge
    ·exfalso
     obtain⟨k,hk1,hk2,hk3⟩:=va hlt
     have hkd:done.getD k false=true:=fI h.down _ i k hwaits (hchain i k hk1 he hk2)
     have:=(h.chain k hk2).1 hkd
     omega
    ·omega
   subst hca
   have h6:=h5 σ a w S h.sat h.own hF hbl
   have hch' : ∀k,es[k]? =some true->((done.setIfInBounds i true).getD k false=true↔fS es k<fS es i+1):=fun k hk=>by
    by_cases hik:i=k
    ·subst hik
     constructor
     ·intro _;omega
     ·intro _;simp [his]
    ·rw [vf false hik,h.chain k hk]
     constructor
     ·intro h;omega
     ·intro hlt
      rcases mb i k with hlk|hlk
      ·have:=E1 hlk he;omega
      ·exact E1 (by omega) hk
   have hcle' :fS es i+1<=fS es es.length:=E1 (by omega) he
   by_cases hw:Region.wanted o (yielded (l++t).toArray a.tmps)=true
   ·rw [bD hw]at h6 ⊢
    refine jZ (fun a' w' ⟨v,S',x,ha,V,hs,hown,hv⟩=>?_) h6
    subst ha
    exact ih _ _ _ S' _ _ hu' hfree' hcle' (h.step ho' hdNN huq hwait A hun hdpp V (fun b ⟨f,hf,H⟩=>(cN.mem h.own f hf).2 b H) hs hown (fun k hk=>G6 σ x hk) hv hch')
   ·rw [bv hw]at h6 ⊢
    obtain⟨x,hown,hv⟩:=h6
    exact⟨fun _ _=>trivial,ih _ _ _ S _ _ hu' hfree' hcle' (h.step ho' hdNN huq hwait A hun hdpp (jl.refl sR _ _) (fun _ H=>H.elim) h.sat hown (fun k hk=>G6 σ x hk) hv hch')⟩
variable{O:List OE}
def eH{id:Nat}(m:Nat)(ts:List TS)(es:List Bool)(Ss:List ((Nat->OI)->List OE))(hO:Ss[0]? =some fun _=>O)(hm:E.P.follows .mixedOrders=true)(hsl:v7 E.N.n [] (L.take m)=true)(hlen:ts.length=(L.take m).length)(hesl:es.length=(L.take m).length)(hch:LH L es=true)(M:yh L (L.take m).length (L.drop m).length=true)(hd:DS E G L ts Ss es 0 0 (L.take m) es)(k: ∀σ:Nat->OI,RG E L.toArray tV (L.drop m) (PD Ss (fS es es.length) σ) (I1 (L.take m) (RO ts σ) G)):CG E tV (.region id L.toArray true) O G:=fun a w S st=>by
 have hL:L=L.take m++L.drop m:=(qU m L).symm
 generalize L.take m=l at hL hsl hlen hesl M hd k
 generalize L.drop m=t at hL M k
 subst hL
 refine wpIn_region_any hm ?_
 obtain⟨he,hs⟩:=AM (w:=w) st.sat
 have hO0:PD Ss 0 (fun _=>nj)=O:=by unfold PD;rw [hO]
 refine Ip hsl hlen hesl hd hch M (fun a w S σ st=>k σ a w S st) _ _ _ _ S (fun _=>nj) 0 ?_ (fun j _=>?_) (ij _)
  ⟨st.ext.step0 he,hs,by rw [hO0];exact st.own.ext0 he,st.facts.size,st.facts.defers,by simp,fun j o hj hdone=>?_,fun k t hk _=>st.facts.at_ k t hk,fun j o d t hj hdone=>?_,fun j p hdone=>?_,fun k _=>⟨fun hdone=>?_,fun h=>(by omega)⟩⟩
 ·unfold kb;rw [L9,L0];simp
 ·simp [yH];split<;>rfl
 ·simp [yH]at hdone
  split at hdone<;>simp at hdone
 ·simp [yH]at hdone
  split at hdone<;>simp at hdone
 ·simp [yH]at hdone
  split at hdone<;>simp at hdone
 ·simp [yH]at hdone
  split at hdone<;>simp at hdone
def eD{p:Nat->(Nat->OI)->Prop}{lo:Nat}(h: ∀σ,p lo σ): ∀c σ,lo<=c->c<=lo->p c σ:=fun c σ A D=>by
 have:c=lo:=by omega
 subst this;exact h σ
def pF{p:Nat->(Nat->OI)->Prop}{lo hi:Nat}(h: ∀σ,p lo σ)(k: ∀c σ,lo+1<=c->c<=hi->p c σ): ∀c σ,lo<=c->c<=hi->p c σ:=fun c σ A D=>by
 by_cases e:c=lo
 ·subst e;exact h σ
 ·exact k c σ (by omega) D
variable{after:Array Edge}{g:Option (Nat×Bool)}{ok:α->Prop}{op:Op}{pos:String}{post:OI->List OE}
def Aw{ty:TypeId}(hnd: ∀c,op≠ .defer c)(h: ∀a w S,kp w S->cN E.base E.B w S O->cu E.N S a G->E.base<=w.heap.size-> ∃w' S' x,(execOp a.eval ⟨none,op,ty,pos,after,g⟩).run E.P w= .ok .skip w' /\jl (J6 O) w S w' S' /\kp w' S' /\cN E.base E.B w' S' (post x)):
  EffOK E O G ⟨none,op,ty,pos,after,g⟩ post (fun _=>tz):=fun a w S hs ho hf H=>by
 obtain⟨w',S',x,A,D,h3,h4⟩:=h a w S hs ho hf H
 refine⟨hnd,?_⟩
 rw [A]
 exact⟨undef,S',x,rfl,D,h3,h4,trivial⟩

abbrev HL:=List (Nat×Value)
def Ai:HL->Nat->Option Value
 |[],_=>none
 |p::hs,o=>bif Nat.beq p.1 o then some p.2 else Ai hs o
def ug: ∀{hs:HL} {o:Nat} {v:Value},Ai hs o=some v->(o,v)∈hs
 |[],_,_,h=>by cases h
 |p::hs,o,v,h=>by
  unfold Ai at h
  by_cases H:Nat.beq p.1 o=true
  ·rw [H]at h
   have e1:=nU H
   have e2:p.2=v:=oD h
   subst e1 e2
   exact lL ..
  ·rw [AP]at H
   rw [H]at h
   exact ma _ (ug h)
def rH{α:Type}(r:Rp α)(hs:HL):Rp α where
 sz:=r.sz
 agg:=r.agg
 rc:=fun S cs x=>r.rc S cs x/\ ∀p∈hs,cs[p.1]? =some p.2
 mono:=fun h k=>⟨r.mono h k.1,k.2⟩
 len:=fun k=>r.len k.1
 one:=fun k=>r.one k.1
 sc:=r.sc
variable{cs:List Value}{off:Nat}
def rm{hs:HL}{get:α->β}(h:iZ r off q get):iZ (rH r hs) off q get:=fun S cs x k=>h S cs x k.1
def Pd(h:cs[off]? =some v):(cs.drop off).take 1=[v]:=by
 have hlt:=(qB.1 h).1
 rw [pC hlt,(qB.1 h).2]
 rfl
def YD{hs:HL}(h:Ai hs off=some v):iZ (rH r hs) off rV (fun _=>v):=fun S cs x k=>by
 have A:=k.2 _ (ug h)
 exact⟨Pd A,r.one k.1 v (qD A)⟩
def HZ(z:List Value):HL->Prop
 |[]=>True
 |p::hs=>z[p.1]? =some p.2/\HZ z hs
variable{z:List Value}
def HZ.all: ∀{hs:HL},HZ z hs-> ∀p∈hs,z[p.1]? =some p.2
 |_::_,⟨h,_⟩,_,.head _=>h
 |_::_,⟨_,h⟩,_,.tail _ hm=>HZ.all h _ hm
def zH{x:α}{hs:HL}(h: ∀S,r.rc S z x)(k:HZ z hs): ∀S,(rH r hs).rc S z x:=fun S=>⟨h S,k.all⟩
def U3(hs:HL)(off sz:Nat):Bool:=hs.all fun p=>Nat.blt p.1 off||Nat.ble (off+sz) p.1
def V0(hs:HL)(off sz:Nat)(v:Option Value):HL->Prop
 |[]=>True
 |p::l=>((v=some p.2/\p.1=off/\sz=1)\/(Ai hs p.1=some p.2/\(Nat.blt p.1 off||Nat.ble (off+sz) p.1)=true))/\V0 hs off sz v l
variable{sz:Nat}
def V0.all{hs:HL}{v:Option Value}: ∀{l:HL},V0 hs off sz v l-> ∀p∈l,(v=some p.2/\p.1=off/\sz=1)\/(Ai hs p.1=some p.2/\(Nat.blt p.1 off||Nat.ble (off+sz) p.1)=true)
 |_::_,⟨h,_⟩,_,.head _=>h
 |_::_,⟨_,h⟩,_,.tail _ hm=>V0.all h _ hm
def wM{ds:List Value}{k:Nat}(hl:ds.length=sz)(hoff:off+sz<=cs.length)(h:(Nat.blt k off||Nat.ble (off+sz) k)=true):(cs.take off++ds++cs.drop (off+sz))[k]? =cs[k]? :=by
 simp only [vN,vL,Nat.ble_eq]at h
 have M:(cs.take off).length=off:=by simp;omega
 rcases h with h|h
 ·rw [zG (by simp;omega),zG (by omega),AR h]
 ·rw [tX (by simp;omega),vD]
  congr 1
  simp only [mV,M,hl];omega
def Rm{ds:List Value}(hd:ds=[v])(hoff:off+1<=cs.length):(cs.take off++ds++cs.drop (off+1))[off]? =some v:=by
 subst hd
 have M:(cs.take off).length=off:=by simp;omega
 rw [zG (by simp;omega),tX (by omega),M,Dd]
 rfl
variable{set:α->β->α}{y:α}
def yi{hs hs' :HL}{x:α}{y:β}(h:dQ r off q set)(hk:V0 hs off q.sz none hs')(hoff:Nat.ble (off+q.sz) r.sz=true):oz (rH r hs) (rH r hs') off q x y (set x y):=fun S cs ds A D=>by
 refine⟨h S cs x ds y A.1 D,fun p hp=>?_⟩
 rcases hk.all p hp with⟨e,_⟩|⟨g1,g2⟩
 ·cases e
 ·have hl:=r.len A.1
  rw [wM (q.len D) (by have:=qE hoff;omega) g2]
  exact A.2 _ (ug g1)
def ID{hs:HL}(h:dQ r off q set)(hk:U3 hs off q.sz=true)(hoff:Nat.ble (off+q.sz) r.sz=true):dQ (rH r hs) off q set:=fun S cs x ds y A D=>by
 refine⟨h S cs x ds y A.1 D,fun p hp=>?_⟩
 have hl:=r.len A.1
 rw [wM (q.len D) (by have:=qE hoff;omega) (mo.1 hk p hp)]
 exact A.2 _ hp
variable{T U:TypeId}{hx:MV β}{agg:Bool}{bytes cap:Nat}{dst:Option Tmp}{ops:Array Oper}{rest:List Oper}{xs:List α}{γ:β->Ty}
section
variable{e:Exit}
section
variable{ty:TypeId}
def iy{t:OI->Ty}(h:EffOK E O G ⟨none,op,ty,pos,after,none⟩ post t)(k: ∀x,RG E ops tV rest (post x) G):RG E ops tV (⟨none,op,ty,pos,after,none⟩::rest) O G:= .of rfl fun a w S st=>
 m7 (fun a' w' ⟨v,S',x,ha,V,hs,ho,hv⟩=>by
  subst ha
  exact k x _ _ S' ⟨st.ext.step V fun b ⟨f,hf,H⟩=>(cN.mem st.own f hf).2 b H,hs,ho,st.facts.mono V.keep⟩) (h a w S st.sat st.own st.facts st.base_le)
def dB{γ:Type}{r' :Rp γ}{x:α}{x' :γ}{y:β}{v:Operand}(ti:TI E.P U sz bytes agg z)(hsz:q.sz=sz)(hset:oz r r' off q x y x')(hoff:Nat.ble (off+q.sz) r.sz=true)(hp:aE E.N G p (Q (ai b off)))(hv:aE E.N G v (K q y)):EffOK E (bx r T b x::O) G ⟨none,.store U p v,ty,pos,after,g⟩ (fun _=>bx r' T b x' ::O) (fun _=>tz):=Aw (fun _ h=>(by cases h)) fun a w S hs ho hf H=>by
 have A:a.eval p=ai b off:=hp S a hf
 obtain⟨ds,D,h3⟩:=hv S a hf
 obtain⟨⟨hno,cur,h5,h6⟩,_⟩:=ho.1
 have hl:=r.len h6
 have hoff' :=qE hoff
 obtain⟨w',hr,e1,e2,e3,e4,e5,e6⟩:=gV ti hsz h3 h5 (off:=off) (by simp at hl;omega)
 have hrun:(execOp a.eval ⟨none,.store U p v,ty,pos,after,g⟩).run E.P w= .ok .skip w' :=by
  simp [execOp,A,D,Instr.storeAt,ai,Instr.sureAddr,hr]
 obtain⟨g1,g2,g3⟩:=kM (O:=O) hs (bx r T b x) (bx r' T b x') ho (fun _=>rJ) (fun _=>rJ) ⟨e1,e2,e3,e4.1,e4.2⟩ e6 ⟨hno,_,e5,by simpa using hset S _ _ h6 h3⟩ hno
 exact⟨w',S,nj,hrun,g1.more fun k hk=>⟨_,lL ..,hk⟩,g2,g3⟩
def lG{hs hs' :HL}{x:α}{y:β}{v:Operand}(ti:TI E.P U 1 bytes false z)(hsz:q.sz=1)(hag:q.agg=false)(hset:dQ r off q set)(hoff:Nat.ble (off+1) r.sz=true)(hk:V0 hs off 1 (some u) hs')(hp:aE E.N G p (Q (ai b off)))(hv:aE E.N G v (K q y))(hu:aE E.N G v (Q u)):EffOK E (bx (rH r hs) T b x::O) G ⟨none,.store U p v,ty,pos,after,g⟩ (fun _=>bx (rH r hs') T b (set x y)::O) (fun _=>tz):=Aw (fun _ h=>(by cases h)) fun a w S hsat ho hf H=>by
 have A:a.eval p=ai b off:=hp S a hf
 obtain⟨ds,D,h3⟩:=hv S a hf
 have hu' :a.eval v=u:=hu S a hf
 obtain⟨⟨hno,cur,h5,h6⟩,_⟩:=ho.1
 have hl:=r.len h6.1
 have hoff' :=qE hoff
 have hdl:=q.len h3
 have hds:ds=[u]:=by
  obtain⟨d,hd⟩:=List.length_eq_one_iff.1 (by rw [hdl,hsz]:ds.length=1)
  subst hd
  have e1:q.val [d]=d:=by simp [Rp.val,hag]
  rw [D,e1]at hu'
  rw [hu']
 obtain⟨w',hr,e1,e2,e3,e4,e5,e6⟩:=gV ti hsz h3 h5 (off:=off) (by simp at hl;omega)
 have hrun:(execOp a.eval ⟨none,.store U p v,ty,pos,after,g⟩).run E.P w= .ok .skip w' :=by
  simp [execOp,A,D,Instr.storeAt,ai,Instr.sureAddr,hr]
 rw [hsz]at e5
 have hnew:(rH r hs').rc S (cur.toList.take off++ds++cur.toList.drop (off+1)) (set x y):=by
  have h7:=hset S _ _ _ _ h6.1 h3
  rw [hsz]at h7
  refine⟨h7,fun p hp=>?_⟩
  rcases hk.all p hp with⟨f1,f2,_⟩|⟨f1,f2⟩
  ·rw [f2]
   exact Rm (by rw [hds,oD f1]) (by omega)
  ·rw [wM (by rw [hdl,hsz]) (by omega) f2]
   exact h6.2 _ (ug f1)
 obtain⟨g1,g2,g3⟩:=kM (O:=O) hsat (bx (rH r hs) T b x) (bx (rH r hs') T b (set x y)) ho (fun _=>rJ) (fun _=>rJ) ⟨e1,e2,e3,e4.1,e4.2⟩ e6 ⟨hno,_,e5,by simpa using hnew⟩ hno
 exact⟨w',S,nj,hrun,g1.more fun k hk=>⟨_,lL ..,hk⟩,g2,g3⟩
end
section
variable{ty:TypeId}
def nC{hs:HL}{x:α}(ti:TI E.P U 1 bytes false z)(hk:Ai hs off=some u)(hm:bx (rH r hs) T b x∈O)(hp:aE E.N G p (Q (ai b off))):
  bP E O G ⟨dst,.load U p,ty,pos,after,g⟩ (Q u):=(aV (q:=rV) ti rfl rfl (YD hk) hm hp).imp fun _ _ h=>(zS.1 h).1
def ed{q:Rp α}{r:Rp β}{hs:HL}{x:β}{hx:TypeId}{l:Option Nat}(ti:TI E.P U 1 bytes false z)(hk:Ai hs off=some (Y l cap xs.length))(hm:bx (rH r hs) T b x∈O)(hm2:Z q hx l cap xs∈O)(hp:aE E.N G p (Q (ai b off))):
  bP E O G ⟨dst,.load U p,ty,pos,after,g⟩ (tO q l cap xs):=fun a w S hs' ho hf=>
 m7 (fun _ _ ⟨v,S',A,D,h3,h4⟩=>⟨v,S',A,D,h3,h4,by
  have h5:v=Y l cap xs.length:=h4
  rw [h5]
  exact kF (((ho.ext0 D).mem _ hm2).1)⟩) (nC (g:=g) (ty:=ty) (pos:=pos) (after:=after) (dst:=dst) ti hk hm hp a w S hs' ho hf)
def Sl{t:Ty}(A: ∀S v,t.p S v->v.oneCell' =true)(V:aE E.N G x t):bP E O G ⟨dst,.box T x,ty,pos,after,g⟩ (bn (rT t) ()):=
 KS (fun S a hf=>X9.2 ⟨A _ _ (V S a hf),V S a hf⟩)
end
def R9:HL->HL->Prop
 |[],_=>True
 |p::l,hs=>Ai hs p.1=some p.2/\R9 l hs
def R9.all{hs:HL}: ∀{l:HL},R9 l hs-> ∀p∈l,p∈hs
 |_::_,⟨h,_⟩,_,.head _=>ug h
 |_::_,⟨_,h⟩,_,.tail _ hm=>R9.all h _ hm
end

variable{B:Nat->Prop}{base:Nat}{x0 x1 x10 x11 x12 x13 x2 x3 x4 x5 x6 x7 x8 x9:OE}
def wU(h:cN base B w S (x0::x1::x2::x3::x4::x5::x6::x7::x8::x9::x10::x11::x12::x13::O)):cN base B w S (x13::x0::x1::x2::x3::x4::x5::x6::x7::x8::x9::x10::x11::x12::O):=
 (lc h wV (fun f hf=>by simp only [eW]at hf ⊢;rcases hf with h|h|h|h|h|h|h|h|h|h|h|h|h|h<;>simp [h])).swap
def E5(h:RG E ops tV rest (x13::x0::x1::x2::x3::x4::x5::x6::x7::x8::x9::x10::x11::x12::O) G):RG E ops tV rest (x0::x1::x2::x3::x4::x5::x6::x7::x8::x9::x10::x11::x12::x13::O) G:=fun a w S st=>h a w S (st.own_map wU)
def LY{e:Exit}(h:AT E tV e (x13::x0::x1::x2::x3::x4::x5::x6::x7::x8::x9::x10::x11::x12::O) G):AT E tV e (x0::x1::x2::x3::x4::x5::x6::x7::x8::x9::x10::x11::x12::x13::O) G:=fun a w S st=>h a w S (st.own_map wU)
def JT{x14:OE}(h:cN base B w S (x0::x1::x2::x3::x4::x5::x6::x7::x8::x9::x10::x11::x12::x13::x14::O)):cN base B w S (x14::x0::x1::x2::x3::x4::x5::x6::x7::x8::x9::x10::x11::x12::x13::O):=
 (lc h wU (fun f hf=>by simp only [eW]at hf ⊢;rcases hf with h|h|h|h|h|h|h|h|h|h|h|h|h|h|h<;>simp [h])).swap
def LX{e:Exit}{x14:OE}(h:AT E tV e (x14::x0::x1::x2::x3::x4::x5::x6::x7::x8::x9::x10::x11::x12::x13::O) G):AT E tV e (x0::x1::x2::x3::x4::x5::x6::x7::x8::x9::x10::x11::x12::x13::x14::O) G:=fun a w S st=>h a w S (st.own_map JT)
variable{O' :List OE}
def EffOK.perm{t:OI->Ty}(h:EffOK E O' G o post t)(k: ∀{w S},cN E.base E.B w S O->cN E.base E.B w S O')(m: ∀f∈O',f∈O):EffOK E O G o post t:=fun a w S hs ho hf H=>
 m7 (fun _ _ ⟨v,S',x,A,D,h3,h4,h5⟩=>⟨v,S',x,A,D.more fun _ ⟨f,hf,hk⟩=>⟨f,m f hf,hk⟩,h3,h4,h5⟩) (h a w S hs (k ho) hf H)
namespace EffOK
section
variable{t:OI->Ty}
def fr1(h:EffOK E (x1::x0::O) G o post t):EffOK E (x0::x1::O) G o post t:=h.perm (fun hw=>cN.swap hw) (fun f hf=>by simp only [eW]at hf ⊢;rcases hf with h|h|h<;>simp [h])
def fr2(h:EffOK E (x2::x0::x1::O) G o post t):EffOK E (x0::x1::x2::O) G o post t:=h.perm (fun hw=>p3 hw) (fun f hf=>by simp only [eW]at hf ⊢;rcases hf with h|h|h|h<;>simp [h])
def fr3(h:EffOK E (x3::x0::x1::x2::O) G o post t):EffOK E (x0::x1::x2::x3::O) G o post t:=h.perm (fun hw=>sx hw) (fun f hf=>by simp only [eW]at hf ⊢;rcases hf with h|h|h|h|h<;>simp [h])
def fr4(h:EffOK E (x4::x0::x1::x2::x3::O) G o post t):EffOK E (x0::x1::x2::x3::x4::O) G o post t:=h.perm (fun hw=>sw hw) (fun f hf=>by simp only [eW]at hf ⊢;rcases hf with h|h|h|h|h|h<;>simp [h])
def fr5(h:EffOK E (x5::x0::x1::x2::x3::x4::O) G o post t):EffOK E (x0::x1::x2::x3::x4::x5::O) G o post t:=h.perm (fun hw=>sv hw) (fun f hf=>by simp only [eW]at hf ⊢;rcases hf with h|h|h|h|h|h|h<;>simp [h])
def fr6(h:EffOK E (x6::x0::x1::x2::x3::x4::x5::O) G o post t):EffOK E (x0::x1::x2::x3::x4::x5::x6::O) G o post t:=h.perm (fun hw=>pZ hw) (fun f hf=>by simp only [eW]at hf ⊢;rcases hf with h|h|h|h|h|h|h|h<;>simp [h])
def fr7(h:EffOK E (x7::x0::x1::x2::x3::x4::x5::x6::O) G o post t):EffOK E (x0::x1::x2::x3::x4::x5::x6::x7::O) G o post t:=h.perm (fun hw=>zw hw) (fun f hf=>by simp only [eW]at hf ⊢;rcases hf with h|h|h|h|h|h|h|h|h<;>simp [h])
def fr8(h:EffOK E (x8::x0::x1::x2::x3::x4::x5::x6::x7::O) G o post t):EffOK E (x0::x1::x2::x3::x4::x5::x6::x7::x8::O) G o post t:=h.perm (fun hw=>vc hw) (fun f hf=>by simp only [eW]at hf ⊢;rcases hf with h|h|h|h|h|h|h|h|h|h<;>simp [h])
def fr9(h:EffOK E (x9::x0::x1::x2::x3::x4::x5::x6::x7::x8::O) G o post t):EffOK E (x0::x1::x2::x3::x4::x5::x6::x7::x8::x9::O) G o post t:=h.perm (fun hw=>vb hw) (fun f hf=>by simp only [eW]at hf ⊢;rcases hf with h|h|h|h|h|h|h|h|h|h|h<;>simp [h])
def fr10(h:EffOK E (x10::x0::x1::x2::x3::x4::x5::x6::x7::x8::x9::O) G o post t):EffOK E (x0::x1::x2::x3::x4::x5::x6::x7::x8::x9::x10::O) G o post t:=h.perm (fun hw=>qx hw) (fun f hf=>by simp only [eW]at hf ⊢;rcases hf with h|h|h|h|h|h|h|h|h|h|h|h<;>simp [h])
def fr11(h:EffOK E (x11::x0::x1::x2::x3::x4::x5::x6::x7::x8::x9::x10::O) G o post t):EffOK E (x0::x1::x2::x3::x4::x5::x6::x7::x8::x9::x10::x11::O) G o post t:=h.perm (fun hw=>qw hw) (fun f hf=>by simp only [eW]at hf ⊢;rcases hf with h|h|h|h|h|h|h|h|h|h|h|h|h<;>simp [h])
def post_imp{post' :OI->List OE}(h:EffOK E O G o post t)(k: ∀{w S x},cN E.base E.B w S (post x)->cN E.base E.B w S (post' x)):EffOK E O G o post' t:=fun a w S hs ho hf H=>
 m7 (fun _ _ ⟨v,S',x,A,D,h3,h4,h5⟩=>⟨v,S',x,A,D,h3,k h4,h5⟩) (h a w S hs ho hf H)
end
end EffOK
variable{P:Program}{cells:List Value}{mm:Bool}{ys zs:List α}
section
variable{ty:TypeId}
def zl{l:Option Nat}{foff:Nat}{v:β}{i:Int}(ti:TI E.P T sz bytes agg z)(hsz:q.sz=sz)(hset:dQ r foff q set)(hoff:Nat.ble (foff+q.sz) r.sz=true)(hy:fg xs i=some y)(hz:xs.set i.toNat (set y v)=zs)(hp:aE E.N G p (Q (cJ l (i.toNat*r.sz+foff))))(V:aE E.N G x (K q v)):EffOK E (d7 r U l cap xs::O) G ⟨none,.store T p x,ty,pos,after,g⟩ (fun _=>d7 r U l cap zs::O) (fun _=>tz):=Aw (fun _ h=>(by cases h)) fun a w S hsat hown hf hbase=>by
 subst hz
 have A:a.eval p=cJ l (i.toNat*r.sz+foff):=hp S a hf
 obtain⟨ds,D,h3⟩:=V S a hf
 obtain⟨h0,hy'⟩:=iF hy
 have hlt:i.toNat<xs.length:=(qB.1 hy').1
 obtain⟨cells,hraw,hrc,hno⟩:=hown.1.1
 obtain⟨b,cur,rfl,H,hle,hcs,h6⟩:=o7 hown.1.1 hy'
 obtain⟨cur',hb',hle',hmax,hcs',hct⟩:=hraw
 have hcc:cur' =cur:=by rw [H]at hb';injection hb' with e;injection e with e1;exact e1.symm
 subst hcc
 have hno' :S b=none:=hno b rfl
 have hoff' :=qE hoff
 have hl3:=q.len h3
 have hmul:i.toNat*r.sz+r.sz<=xs.length*r.sz:=by rw [<-Nat.succ_mul];exact yG _ hlt
 have hmul2:xs.length*r.sz<=cur'.size:=by rw [hcs];exact yG _ hle
 obtain⟨w',hr,e1,e2,e3,e4,e5,e6⟩:=gV ti hsz h3 H (off:=i.toNat*r.sz+foff) (by omega)
 have hrun:(execOp a.eval ⟨none,.store T p x,ty,pos,after,g⟩).run E.P w= .ok .skip w' :=by
  simp [execOp,A,D,Instr.storeAt,cJ,ai,Instr.sureAddr,hr]
 have hnew:=hset S _ _ _ _ h6 h3
 have hrc' :=z2 hnew hrc hlt
 have hcl:=kC hrc
 have hcells:(cur'.toList.take (i.toNat*r.sz+foff)++ds++cur'.toList.drop (i.toNat*r.sz+foff+q.sz)).take (xs.length*r.sz)=
   cells.take (i.toNat*r.sz)++(((cur'.toList.drop (i.toNat*r.sz)).take r.sz).take foff++ds++((cur'.toList.drop (i.toNat*r.sz)).take r.sz).drop (foff+q.sz))++cells.drop (i.toNat*r.sz+r.sz):=by
  subst hct
  apply Ie
  intro j
  simp only [List.getElem?_take,List.getElem?_append,vD,yE,zK,mV,Fj]
  rcases mb j (xs.length*r.sz)with hj|hj
  ·simp only [hj,gW]
   rcases mb j (i.toNat*r.sz)with hj1|hj1
   ·rw [bD (by omega),bD (by omega),bD (by omega),bD (by omega),bD (by omega),bD (by omega)]
   ·rcases mb j (i.toNat*r.sz+foff)with hj2|hj2
    ·rw [bD (by omega),bD (by omega),bD (by omega),bD (by omega),bv (by omega),bD (by omega),bD (by omega),bD (by omega),bD (by omega)]
     congr 1;omega
    ·rcases mb j (i.toNat*r.sz+foff+q.sz)with hj3|hj3
     ·rw [bD (by omega),bv (by omega),bD (by omega),bv (by omega),bD (by omega),bv (by omega)]
      congr 1;omega
     ·rw [bv (by omega)]
      rcases mb j (i.toNat*r.sz+r.sz)with hj4|hj4
      ·rw [bD (by omega),bv (by omega),bv (by omega),bD (by omega)]
       congr 1;omega
      ·rw [bv (by omega),bD (by omega)]
       congr 1;omega
  ·rw [bv (by omega),bv (by omega),bv (by omega)]
 obtain⟨g1,g2,g3⟩:=kM (O:=O) hsat (d7 r U (some b) cap xs) (d7 r U (some b) cap (xs.set i.toNat (set y v))) hown (fun k=>⟨fun h=>(oD h).symm,fun h=>by rw [h];rfl⟩) (fun k=>⟨fun h=>(oD h).symm,fun h=>by rw [h];rfl⟩) ⟨e1,e2,e3,e4.1,e4.2⟩ e6
  ⟨_,⟨_,e5,by rw [Df];exact hle,hmax,by simp only [Dg,mV,yE,zK,Fj];omega,by rw [Df];exact hcells⟩,hrc',fun k hk=>by rw [<-oD hk];exact hno'⟩ hno'
 exact⟨w',S,nj,hrun,g1.more fun c hc=>⟨_,lL ..,by rw [hc];rfl⟩,g2,g3⟩
def Lu{v:α}{i:Int}(ti:TI E.P U sz bytes agg z)(hsz:r.sz=sz)(hy:fg xs i=some y)(hz:xs.set i.toNat v=zs)(hp:aE E.N G p (Q (ai b (i.toNat*r.sz))))(hv:aE E.N G x (K r v)):EffOK E (bx (o8 r n) T b xs::O) G ⟨none,.store U p x,ty,pos,after,g⟩ (fun _=>bx (o8 r n) T b zs::O) (fun _=>tz):=Aw (fun _ h=>(by cases h)) fun a w S hsat hown hf hbase=>by
 subst hz
 have A:a.eval p=ai b (i.toNat*r.sz):=hp S a hf
 obtain⟨ds,D,h3⟩:=hv S a hf
 obtain⟨⟨hno,cur,h5,h6⟩,_⟩:=hown.1
 obtain⟨h0,hy'⟩:=iF hy
 have hlt:i.toNat<xs.length:=(qB.1 hy').1
 have hl:=kC h6.2
 simp only [Fj]at hl
 have hmul:i.toNat*r.sz+r.sz<=xs.length*r.sz:=by rw [<-Nat.succ_mul];exact yG _ hlt
 obtain⟨w',hr,e1,e2,e3,e4,e5,e6⟩:=gV ti hsz h3 h5 (off:=i.toNat*r.sz) (by omega)
 have hrun:(execOp a.eval ⟨none,.store U p x,ty,pos,after,g⟩).run E.P w= .ok .skip w' :=by
  simp [execOp,A,D,Instr.storeAt,ai,Instr.sureAddr,hr]
 obtain⟨g1,g2,g3⟩:=kM (O:=O) hsat (bx (o8 r n) T b xs) (bx (o8 r n) T b (xs.set i.toNat v)) hown (fun _=>rJ) (fun _=>rJ) ⟨e1,e2,e3,e4.1,e4.2⟩ e6 ⟨hno,_,e5,by rw [Df];exact h6.1,z2 h3 h6.2 hlt⟩ hno
 exact⟨w',S,nj,hrun,g1.more fun c hc=>⟨_,lL ..,hc⟩,g2,g3⟩

section
def na{x:α}(ti:TI E.P T sz bytes agg z)(V: ∀S,r.rc S z x):
  EffOK E O G ⟨some d,.alloc T,ty,pos,after,g⟩ (fun i=>bx r T (i.h 0).2 x::O) (fun i=>Q (ai (i.h 0).2 0)):=fun a w S hs ho hf H=>by
 obtain⟨zv,hzr,hzc⟩:=ti.zero w
 obtain⟨he,hs',hno⟩:=jw (w:=w) (.cells z.toArray T (0,0)) hs
 have hrun:(execOp a.eval ⟨some d,.alloc T,ty,pos,after,g⟩).run E.P w= .ok (.value (ai w.heap.size 0)) (w.alloc (.cells z.toArray T (0,0))):=by
  simp [execOp,Instr.alloc,hzr,newVar,newRow,hzc,ai]
 refine⟨fun c h=>(by cases h),?_⟩
 rw [hrun]
 exact⟨_,S,oi none w.heap.size,rfl,he.more fun _ H=>H.elim,hs',rk ho he (e:=bx r T w.heap.size x) ⟨hno,z.toArray,xW w _,by simpa using V S⟩ (fun b H=>BL H.symm) H,rfl⟩
def pV{xs:List Operand}{ats:Array TypeId}(hc:aj E.P f=true)(hs:j8 E.P f ts false r T ys)(V:iK E.N G xs ts):
  EffOK E O G ⟨some d,.call ⟨.value (.func f),xs.toArray,ats⟩,ty,pos,after,g⟩ (fun i=>d7 r T (i.h 0).1 (i.h 0).2 ys::O) (fun i=>Q (Y (i.h 0).1 (i.h 0).2 ys.length)):=O3 (mm:=false) hc hs V (fun _ _ _ _ _=>rfl)
end
section
def cC{l:Option Nat}{o i:Nat}(hf:a8 E.P T i=some (off,sz))(h0:Nat.beq sz 0=false)(hm:jR mm r U l cap xs∈O)(hy:fg xs j=some y)(hp:aE E.N G p (Q (cJ l o)))(he:o+off=n):
  bP E O G ⟨dst,.fieldAddr T p i,ty,pos,after,g⟩ (Q (cJ l n)):=by
 subst he
 exact Fv hf h0 hm hy hp
def bC(V:aE E.N G x (Q (ai b off))):bP E O G ⟨dst,.nilCheck x,ty,pos,after,g⟩ (Q (ai b off)):= .of_pure fun a w S _ _ hf=>by
 have A:a.eval x=ai b off:=V S a hf
 exact⟨ai b off,by simp [execOp,A,ai],rfl⟩
def r0{t:Ty}(ti:TI E.P U 1 bytes false z)(hp:aE E.N G p (bn (rT t) ())):bP E O G ⟨dst,.load U p,ty,pos,after,g⟩ t:=qr ti hp
end
def jM(h:O=O')(k:RG E ops tV rest O' G):RG E ops tV rest O G:=by subst h;exact k
def hW(h:aE N G x (Q u))(ho:u.oneCell' =true):aE N G x (K rV u):=fun S a hf=>zS.2 ⟨h S a hf,ho⟩
def WA{t:Ty}(A: ∀S v,t.p S v->v.oneCell' =true)(h:aE N G x t):aE N G x (K (rT t) ()):=fun S a hf=>X9.2 ⟨A _ _ (h S a hf),h S a hf⟩
def Si{args:α->List Ty}{res:β->Ty}{f:α->Option β}: ∀S v,(gX P args res f).p S v->v.oneCell' =true:=fun _ _ ⟨_,_,e,_⟩=>by rw [e];rfl
end

def Iy{l:Option Nat}{t' e' :TypeId}(M:P.underlying t' =some (.slice e'))(h:xU mm r U l cap xs w S)(hs:cO xs lo (xs.length:Int)=some ys):
  ∃news,Src P r.sz t' (mn r.sz l cap lo.toNat ys.length) ys.length news w/\qA r S news ys:=by
 obtain⟨cells,A,D,_⟩:=h
 obtain⟨lo',m,rfl,hm,h3,h4,rfl⟩:=fv hs
 have hm' :m=xs.length:=by omega
 subst hm'
 rw [xY,zL]
 cases l with
 |none=>
  have V:xs=[]:=vE A.1
  subst V
  exact⟨[],by simpa [mn] using Src.ofNil w M 0,by simp [qA]⟩
 |some b=>
  obtain⟨cur,g1,g2,g3,g4,g5⟩:=A
  have hlen:(xs.drop lo').length=xs.length-lo' :=by simp
  have hcl:=kC D
  have hsp:xs=xs.take lo' ++xs.drop lo' :=(qU lo' xs).symm
  have htl:(xs.take lo').length=lo' :=by simp;omega
  have hr:qA r S (cells.drop (lo' *r.sz)) (xs.drop lo'):=by
   rw [hsp]at D
   have:=(oq D).2
   rwa [htl]at this
  have hmul:lo' *r.sz<=xs.length*r.sz:=yG _ h3
  refine⟨cells.drop (lo' *r.sz),?_,hr⟩
  unfold mn
  refine Src.ofSlice w M _ _ _ _ (kC hr) (fun j u hu=>?_) (z6 hr)
  by_cases hc:cap=lo'
  ·have:xs.drop lo' =[]:=oE (by omega)
   rw [this]at hr
   have hr' :cells.drop (lo' *r.sz)=[]:=hr
   rw [hr']at hu;simp at hu
  ·simp only [hc,ii]
   rw [gK,xx g1]
   rw [vD,<-g5]at hu
   have hj:lo' *r.sz+j<xs.length*r.sz:=by
    have:=(qB.1 hu).1
    simp at this;omega
   rw [AR hj]at hu
   simpa using hu
section
variable{ty:TypeId}
def Pj{l:Option Nat}{yt:TypeId}(M:E.P.underlying t=some (.slice e))(hm:jR mm r U l cap xs∈O)(hs:cO xs lo (xs.length:Int)=some ys)(V:aE E.N G x (Q (mn r.sz l cap lo.toNat ys.length)))(hd:Nat.blt d E.N.n=true)(k: ∀b,(b=true->ys=[])->RG E ops tV rest O ((d,K rB b)::G)):RG E ops tV (⟨some d,.binOp .eql t x (.const (.slice none 0 0)) yt,ty,pos,after,none⟩::rest) O G:= .of rfl fun a w S st=>by
 have A:a.eval x=mn r.sz l cap lo.toNat ys.length:=V S a st.facts
 obtain⟨⟨cells,hraw,_⟩,_⟩:=st.own.mem _ hm
 have hcn:a.eval (.const (.slice none 0 0))= .slice none 0 0:=rfl
 cases l with
 |none=>
  have hx0:xs=[]:=vE hraw.1
  have hy0:ys=[]:=by
   obtain⟨lo',m,_,_,_,_,rfl⟩:=fv hs
   subst hx0;simp
  have h3:(Op.equal t (.slice none 0 0) (.slice none 0 0)).run E.P w= .ok true w:=Ho fun d=>by
   simp [Op.equalIn,g9 M]
  have hrun:(execOp a.eval ⟨some d,.binOp .eql t x (.const (.slice none 0 0)) yt,ty,pos,after,none⟩).run E.P w= .ok (.value (.bool true)) w:=by
   simp [execOp,A,mn,hcn,eqGuard,binOp,h3]
  refine⟨fun c h=>(by cases h),?_⟩
  rw [hrun]
  exact k true (fun _=>hy0) _ _ S (st.step (jl.refl _ _ _) st.sat hd (i6.2 rfl))
 |some b=>
  obtain⟨ad,hv⟩: ∃ad,mn r.sz (some b) cap lo.toNat ys.length= .slice (some ad) ys.length (cap-lo.toNat):=⟨_,rfl⟩
  have h3:(Op.equal t (.slice (some ad) ys.length (cap-lo.toNat)) (.slice none 0 0)).run E.P w= .ok false w:=Ho fun d=>by
   simp [Op.equalIn,g9 M]
  have hrun:(execOp a.eval ⟨some d,.binOp .eql t x (.const (.slice none 0 0)) yt,ty,pos,after,none⟩).run E.P w= .ok (.value (.bool false)) w:=by
   simp [execOp,A,hv,hcn,eqGuard,binOp,h3]
  refine⟨fun c h=>(by cases h),?_⟩
  rw [hrun]
  exact k false (fun e=>(by cases e)) _ _ S (st.step (jl.refl _ _ _) st.sat hd (i6.2 rfl))
def LQ{t' :TypeId}{l l2:Option Nat}{cap2:Nat}{us:List α}{y:Operand}(ti:TI E.P T sz bytes agg z)(hsz:r.sz=sz)(hz:Nat.beq z.length sz=true)(h0:Nat.blt 0 sz=true)(h128:Nat.ble bytes 2048=true)(M:E.P.underlying t=some (.slice T))(ht' :t' =t)(hd:Nat.blt d E.N.n=true)(V:aE E.N G x (Q (Y l cap n)))(hm:jR mm r U l2 cap2 us∈d7 r T l cap xs::O)(hs:cO us lo (us.length:Int)=some ys)(hy:aE E.N G y (Q (mn r.sz l2 cap2 lo.toNat ys.length)))(happ:lm xs ys=some zs)(k: ∀l' cap',RG E ops tV rest (d7 r T l' cap' zs::O) ((d,Q (Y l' cap' zs.length))::G))(hn:n=xs.length:=by rfl):
  RG E ops tV (⟨some d,.call ⟨.builtin .append,#[x,y],#[t,t']⟩,ty,pos,after,none⟩::rest) (d7 r T l cap xs::O) G:=by
 subst ht'
 exact zu (u:=fun cap' l' =>Q (Y l' cap' zs.length)) ti hsz hz h0 h128 M hd V (fun a w S st=>by
  have A:a.eval y=mn r.sz l2 cap2 lo.toNat ys.length:=hy S a st.facts
  rw [A]
  exact Iy M (st.own.mem _ hm).1 hs) happ (fun _ _ _ _ _=>rfl) k hn
end

section
variable{args:α->List Ty}{it:It α}{fp:Nat->Prop}
end

section
variable{ty:TypeId}
end


def oiL(l:List (Option Nat×Nat)):OI:={h:=fun n=>l.getD n (none,0)}
def kr(P:Program){h1 X ρ:Type}(args:h1->List Ty)(Ob:X->OI->List OE)(res:ρ->Ty)(f:X->h1->Option (ρ×X)):Ty where
 p:=fun S v=> ∀x y R,f x y=some R-> ∃fid fst cap,v= .func (.func fid) fst cap/\aj P fid=true/\ ∀i w S' vs,pm S S' ->kp w S' ->xV S' (args y) vs->cN 0 sR w S' (Ob x i)->
  Calls P fid (fst++vs.toArray++cap) w fun en w' => ∃j v S'',en= .returned v/\(res R.1).p S'' v/\jl (J6 (Ob x i)) w S' w' S'' /\kp w' S'' /\cN 0 sR w' S'' (Ob R.2 j)/\ ∀k,J6 (Ob R.2 j) k->J6 (Ob x i) k\/w.heap.size<=k
 mono:=fun h k x y R hf=>by
  obtain⟨fid,fst,cap,e,hc,hs⟩:=k x y R hf
  exact⟨fid,fst,cap,e,hc,fun i w S' vs hle=>hs i w S' vs (SH.le_trans h hle)⟩
variable{O1:List OE}
section
section
variable{ty:TypeId}
end
def uY{h1 X ρ:Type}{args:h1->List Ty}{Ob:X->OI->List OE}{res:ρ->Ty}{f:X->h1->Option (ρ×X)}{x:X}{y:h1}{R:ρ×X}{i:OI}{ty:TypeId}{fo:Operand}{xs:List Operand}{ats:Array TypeId}(Or:List OE)(hO:O=Ob x i++Or)(hf:aE E.N G fo (kr E.P args Ob res f))(hR:f x y=some R)(V:iK E.N G xs (args y))(hpost: ∀j,Ob R.2 j++Or=post j):
  EffOK E O G ⟨some d,.call ⟨.value fo,xs.toArray,ats⟩,ty,pos,after,g⟩ post (fun _=>res R.1):=fun a w S hsat ho hF H=>by
 subst hO
 obtain rfl:(fun j=>Ob R.2 j++Or)=post:=funext hpost
 obtain⟨fid,fst,cap,e,hc,hs⟩:=hf S a hF x y R hR
 have hr:(execOp a.eval ⟨some d,.call ⟨.value fo,xs.toArray,ats⟩,ty,pos,after,g⟩).run E.P w= .ok (.enter fid (fst++(xs.map a.eval).toArray++cap)) w:=by
  simp [execOp,resolve,e,Deferred.ofValue,invoke,il hc]
 refine⟨fun c h=>(by cases h),?_⟩
 rw [hr]
 exact(hs i w S _ (SH.le_refl _) hsat (V.tys hF) (oA ho).1.weak).mono fun en w' ⟨j,v,S',he,hv,A,D,h3,h4⟩=>⟨_,he,v,S',j,rfl,A.more fun b ⟨f,hf,H⟩=>⟨f,Da _ hf,H⟩,D,cN.turn ho H A h3 h4,hv⟩
def Pg{t:Ty}{Ob:OI->List OE}{i:OI}(h:dZ P f ts O1 (fun _:OI=>t) (fun _=>Ob i)):dZ P f ts O1 (fun _:OI=>t) Ob:=fun w S vs hs hv ho=>
 (h w S vs hs hv ho).mono fun _ _ ⟨_,v,S',A,D,h3,h4,h5,h6⟩=>⟨i,v,S',A,D,h3,h4,h5,h6⟩
section
variable{N:Nat}{w0:World}{S0:SH}{fn:Func}{ι:Type}{t:ι->Ty}{O2:ι->List OE}
def gN{rvs:List ResultVar}(hr:fn.results=rvs.toArray)(A:Nat.beq rvs.length 1=false)(h:Ph P ⟨N,[]⟩ G rvs ts)(i:ι)(hO:O=O2 i)(M:t i=tT ts):
  AT ⟨P,⟨N,[]⟩,J6 O1,w0,S0,none⟩ (bodyPost P fn (Rc ⟨P,⟨N,[]⟩,J6 O1,w0,S0,none⟩ O1 t O2)) .ret O G:=fun a w S st=>by
 obtain⟨vs,k1,k2,k3⟩:=h.run st.sat st.facts
 have hne: ¬vs.length=1:=by rw [k3];intro e;rw [e]at A;cases A
 refine⟨st.facts.defers,.tuple vs.toArray,?_,HY st rfl i hO (by rw [M];exact⟨vs,rfl,k2⟩)⟩
 have e1:(fn.results.mapM (yY a.tmps)).run P w= .ok vs.toArray w:=by
  rw [hr,List.mapM_toArray,Sem.run_map,k1]
  rfl
 have e3:results fn a.tmps=((fn.results.mapM (yY a.tmps))>>=fun vs=>pure (if h:vs.size=1 then vs[0]else .tuple vs)):=rfl
 rw [e3,pr,e1]
 simp [Result.andThen,hne]
def RL{k:Nat}{x:α}(hr:fn.results= #[.cell k T])(ti:TI P T sz bytes agg z)(hsz:r.sz=sz)(hag:r.agg=agg)(hk:look G k=some (bn r x))(i:ι)(hO:O=O2 i)(M:t i=K r x):
  AT ⟨P,⟨N,[]⟩,J6 O1,w0,S0,none⟩ (bodyPost P fn (Rc ⟨P,⟨N,[]⟩,J6 O1,w0,S0,none⟩ O1 t O2)) .ret O G:=fun a w S st=>by
 obtain⟨b,off,c,U,fr,A,D,h3⟩:=st.facts.at_ k _ hk
 obtain⟨c',h4,h5⟩:=st.sat.part D (r.len h3)
 rw [<-h5]at h3
 refine⟨st.facts.defers,r.val ((c'.toList.drop off).take r.sz),?_,HY st rfl i hO (by rw [M];exact⟨_,rfl,h3⟩)⟩
 have hl:=iA ti h4 hsz hag h3
 have h1' :a.tmps[k]?.getD undef=Value.pointer (some ⟨b,off,none⟩):=by simpa [GW] using A
 simp [results,hr,h1',asAddr,hl]
end
def Ya(u:Value)(t:Ty):Ty where
 p:=fun S v=>v=u/\t.p S u
 mono:=fun h ⟨e,k⟩=>⟨e,t.mono h k⟩
def Wq{t:Ty}(h:aE N G x (Ya u t)):aE N G x t:=fun S a hf=>by
 obtain⟨A,D⟩:=h S a hf
 rw [A];exact D
def St.settleP{k:Nat}{x:α}(h:St E (bx r T b x::O) G a w S)(hk:look G k=some (Q (ai b 0))): ∃S',St E O ((k,Ya (ai b 0) (bn r x))::G) a w S' :=by
 obtain⟨S',A⟩:=h.settleB hk
 have hv:a.tmps.getD k undef=ai b 0:=h.facts.at_ k _ hk
 refine⟨S',⟨A.ext,A.sat,A.own,⟨A.facts.size,A.facts.defers,fun j t hj=>?_⟩⟩⟩
 have hp:(bn r x).p S' (a.tmps.getD k undef):=A.facts.at_ k _ (by simp [look])
 by_cases H:Nat.beq k j=true
 ·have e:=nU H
  subst e
  simp only [look,Nat.beq_refl,cond_true,C9]at hj
  subst hj
  exact⟨hv,by rw [<-hv];exact hp⟩
 ·rw [AP]at H
  have:look ((k,bn r x)::G) j=some t:=by
   simp only [look,H,cond_false]at hj ⊢;exact hj
  exact A.facts.at_ j t this
def LM{x:α}(k:Nat)(hk:look G k=some (Q (ai b 0)))(h:RG E ops tV rest O ((k,Ya (ai b 0) (bn r x))::G)):RG E ops tV rest (bx r T b x::O) G:=
 fun a w _ st=>let⟨S',st'⟩:=st.settleP hk;h a w S' st'
end
variable{et kt:TypeId}{kv:κ->Value}{os:List (Option Nat×Nat)}
section
variable [DecidableEq κ]{k:κ}{i v:Operand}{dst:Option Nat}{ty:TypeId}
def AG{y:β}(hm:E.P.underlying t=some (.map kt et))(hk:yB E.P kt kv)(V:aE E.N G x (Q (ak b)))(hi:vC E.N G i (kv k))(hv:aE E.N G v (γ y))(h: ∀os',RG E ops tV rest (bo (Hw γ) kv b none os' (ir m k y)::O) G):
  RG E ops tV (⟨none,.insert t x i v,ty,pos,after,none⟩::rest) (bo (Hw γ) kv b none os m::O) G:= .of rfl fun a w S st=>by
 have A:a.eval x=ak b:=V S a st.facts
 have D:a.eval i=kv k:=hi S a st.facts
 have h3:(γ y).p S (a.eval v):=hv S a st.facts
 obtain⟨⟨hp,hfp⟩,hap,hO⟩:=st.own
 obtain⟨hno,hnb,es,clock,e3,e4,hst⟩:=hp
 obtain⟨q,hq,hdk,hinj⟩:=hk
 obtain⟨os1,p1,p2,_⟩:=od hdk hinj (k:=k) 0 e4
 have hnb1: ∀o∈os1,o.1≠some b:=fun o ho=>by
  rcases p1 o ho with h|h
  ·exact hnb o h
  ·rw [h];exact fun e=>by cases e
 obtain⟨w',os',r,x1,x2,x3,x4⟩:=Bk (hx:=Hw γ) (E:=E) (y:=y) (o:=(none,0)) (val:=a.eval v) st.sat hm ⟨q,hq,hdk,hinj⟩ ⟨hno,hnb1,es,clock,e3,p2,hst⟩ ⟨rfl,h3⟩ (fun e=>by cases e) (fun _ _ _ e=>by cases e)
 have hrun:(execOp a.eval ⟨none,.insert t x i v,ty,pos,after,none⟩).run E.P w= .ok .skip w' :=by simp [execOp,A,D,r]
 refine⟨fun c h=>(by cases h),?_⟩
 rw [hrun]
 have hfp' : ∀j,(bo (Hw γ) kv b none os' (ir m k y)).fp j->(bo (Hw γ) kv b none os m).fp j:=fun j hj=>by
  rcases x4 j hj with(h|⟨o,ho,e⟩)|e
  ·exact .inl h
  ·rcases p1 o ho with h|h
   ·exact .inr ⟨o,h,e⟩
   ·rw [h]at e;cases e
  ·cases e
 exact h os' _ _ S ⟨st.ext.step x1 (fun c hc=>hfp c (.inl hc)),x2,⟨⟨x3,fun j hj=>hfp j (hfp' j hj)⟩,fun f hf j hj=>hap f hf j (hfp' j hj),hO.ext x1 fun f hf j hj hjb=>hap f hf j (.inl hjb) hj⟩,st.facts⟩
end

def th{κ β:Type}(γ:β->Ty)(kv:κ->Value)(S:SH):List MapEntry->List (κ×β)->Prop
 |[],[]=>True
 |e::es,q::m=>e.key=kv q.1/\(γ q.2).p S e.val/\(∀p∈m,p.1≠q.1)/\th γ kv S es m
 |_,_=>False
def uX{κ β:Type}{γ:β->Ty}{kv:κ->Value}{S S' :SH}(h:pm S S'): ∀{es:List MapEntry} {m:List (κ×β)},th γ kv S es m->th γ kv S' es m
 |[],[],_=>trivial
 |_::_,q::_,⟨A,D,h3,h4⟩=>⟨A,(γ q.2).mono h D,h3,uX h h4⟩
def Rb{κ β:Type} [DecidableEq κ]{γ:β->Ty}{kv:κ->Value}{w:World}{S:SH}: ∀{es:List MapEntry} {os:List (Option Nat×Nat)} {m:List (κ×β)},vH (Hw γ) kv w S none es os m->th γ kv S es m
 |[],[],[],_=>trivial
 |_::_,_::_,_::_,⟨A,D,_,h4,h5⟩=>⟨A,by rw [bv (by simp)]at D;exact D.2,h4,Rb h5⟩
def RH{κ β:Type} [DecidableEq κ]{γ:β->Ty}{kv:κ->Value}{w:World}{S:SH}: ∀{es:List MapEntry} {m:List (κ×β)},th γ kv S es m->vH (Hw γ) kv w S none es (m.map fun _=>(none,0)) m
 |[],[],_=>trivial
 |_::_,_::_,⟨A,D,h3,h4⟩=>⟨A,by rw [bv (by simp)];exact⟨rfl,D⟩,fun _ _ _ h=>(by cases h),h3,RH h4⟩
def AZ{κ β:Type}(γ:β->Ty)(kv:κ->Value)(m:List (κ×β)):Ty where
 p:=fun S v=> ∃b es clock,v=ak b/\S b=some (.map es clock)/\th γ kv S es.toList m
 mono:=fun h ⟨b,es,cl,e,A,D⟩=>by
  obtain⟨o',h3,h4⟩:=h b _ A
  have h5:o' = .map es cl:=h4
  subst h5
  exact⟨b,es,cl,e,h3,uX h D⟩
def Mv: ∀S v,(AZ γ kv m).p S v->v.oneCell' =true:=fun _ _ ⟨_,_,_,e,_⟩=>by rw [e];rfl
section
variable [DecidableEq κ]{k:κ}{i:Operand}{dst:Option Nat}{ty:TypeId}
def Cb{z:β}{zv:Value}(hm:E.P.underlying t=some (.map kt et))(hk:yB E.P kt kv)(hz:ZV E.P et zv)(hzt: ∀S,(γ z).p S zv)(V:aE E.N G x (AZ γ kv m))(hi:vC E.N G i (kv k)):
  bP E O G ⟨dst,.lookup t x i false,ty,pos,after,g⟩ (γ ((fP m k).getD z)):= .of_pure fun a w S hs ho hf=>by
 obtain⟨b,es,clock,A,h3,h4⟩:=V S a hf
 obtain⟨o',h5,h6⟩:=hs b _ h3
 have h7:o' = .map es clock:=h6
 subst h7
 obtain⟨q,hq,hd,hinj⟩:=hk
 have D:a.eval i=kv k:=hi S a hf
 obtain⟨_,_,_,h8⟩:=od hd hinj (k:=k) 0 (RH (w:=w) h4)
 rcases h8 with⟨g1,g2⟩|⟨y,o,e,j,g1,g2,g3,g4,g5⟩
 ·refine⟨zv,by simp [execOp,A,D,jq hm hq (hd k) h5 hz g2],by rw [g1];exact hzt S⟩
 ·refine⟨e.val,by simp [execOp,A,D,jq hm hq (hd k) h5 hz g4],by rw [g1];exact g3.2⟩
def St.settleMp{j:Nat}(h:St E (bo (Hw γ) kv b none os m::O) G a w S)(hk:look G j=some (Q (ak b))): ∃S',St E O ((j,AZ γ kv m)::G) a w S' :=by
 obtain⟨⟨hn,_,es,clock,h3,h4,_⟩,_⟩:=h.own.1
 obtain⟨h8,hle,_,_⟩:=yW h (.inl rfl) h3 (ua _) hn
 have hv:a.tmps.getD j undef=ak b:=h.facts.at_ j _ hk
 exact⟨_,h8.cons ⟨b,es,clock,hv,by simp [SH.set],uX hle (Rb h4)⟩⟩
def J4{e:Exit}(j:Nat)(hk:look G j=some (Q (ak b)))(h:AT E tV e O ((j,AZ γ kv m)::G)):AT E tV e (bo (Hw γ) kv b none os m::O) G:=
 fun a w _ st=>let⟨S',st'⟩:=st.settleMp hk;h a w S' st'
end

def GS:Nat:=1000000
def Yi{α:Type}(r:Rp α)(x:α)(g:Nat):Ty where
 p:=fun S _=>(bn r x).p S (ai g 0)
 mono:=fun h k=>(bn r x).mono h k
def U7{x:α}{g:Nat}{vs:List Value}(hs:kp w S)(hg:(g,vs)∈glob)(hr: ∀S,r.rc S vs x):(bn r x).p S (ai g 0):=by
 obtain⟨c,T,fr,A,D⟩:=hs.gl _ hg
 refine⟨g,0,c,T,fr,rfl,A,?_⟩
 rw [pA,<-r.len (hr S)]
 have h3:c.toList.take vs.length=vs:=D
 rw [h3]
 exact hr S
variable{s:bZ}
section
variable{ty:TypeId}
def QY{t:Ty}(hf:cu N S a G)(h: ∀v,t.p S v):cu N S a ((GS,t)::G):=⟨hf.size,hf.defers,fun j u hj=>by
 unfold look at hj
 cases H:Nat.beq GS j with
 |true=>
  rw [H]at hj
  simp only [cond_true,C9]at hj
  rw [<-hj];exact h _
 |false=>
  rw [H]at hj
  simp only [cond_false]at hj
  exact hf.at_ j u hj⟩
def GL{x:α}{v:Nat}{vs:List Value}{t:Ty}(hg:(v,vs)∈glob)(hr: ∀S,r.rc S vs x)(h:bP E O ((GS,Yi r x v)::G) o t):bP E O G o t:=fun a w S hs ho hf=>
 h a w S hs ho (QY hf fun _=>U7 hs hg hr)
def T7{x:α}{v:Nat}:aE N ((GS,Yi r x v)::G) (.global v) (bn r x):=fun S a hf=>hf.at_ GS (Yi r x v) (by simp [look])
def qO(s:bZ)(i:Int):Option Int:=(fg s i).map fun b=>(b.toNat:Int)
def Bi{ix:Operand}{i y:Int}(M:E.P.underlying t=some .string)(V:aE E.N G x (K rS s))(hi:aE E.N G ix (K (rI k) i))(hy:qO s i=some y):
  bP E O G ⟨dst,.index t x ix,ty,pos,after,g⟩ (K (rI .u8) y):= .of_pure fun a w S _ _ hf=>by
 have A:a.eval x= .string ⟨s.toArray⟩:=rO.1 (V S a hf)
 have D:a.eval ix= .int k i:=eF.1 (hi S a hf)
 unfold qO at hy
 cases H:fg s i with
 |none=>rw [H]at hy;cases hy
 |some b=>
  rw [H]at hy
  obtain⟨g1,g2⟩:=iF H
  have hlt:i.toNat<s.length:=(qB.1 g2).1
  have e:y=(b.toNat:Int):=by simpa using hy.symm
  have hsz:(ByteArray.mk s.toArray).size=s.length:=by simp [ByteArray.size]
  refine⟨.int .u8 y,?_,eF.2 rfl⟩
  have h3:=run_index_string (P:=E.P) w t ⟨s.toArray⟩ k i M
  rw [dif_pos (by rw [hsz];omega)]at h3
  have h4:(ByteArray.mk s.toArray)[i.toNat]'(by rw [hsz];exact hlt)=b:=by
   have:=(qB.1 g2).2
   show s.toArray[i.toNat]=b
   simpa using this
  simp only [execOp,A,D,pr,h3,ql,BO]
  rw [h4,e]
def Bh{u:bZ}{hi:Operand}(M:E.P.underlying t=some .string)(V:aE E.N G x (K rS s))(hh:aE E.N G hi (K (rI k) j))(hy:cO s 0 j=some u):
  bP E O G ⟨dst,.slice t x none (some hi) none,ty,pos,after,g⟩ (K rS u):= .of_pure fun a w S _ _ hf=>by
 have A:a.eval x= .string ⟨s.toArray⟩:=rO.1 (V S a hf)
 have D:a.eval hi= .int k j:=eF.1 (hh S a hf)
 obtain⟨l,m,e1,e2,e3,e4,e5⟩:=fv hy
 have el:l=0:=by omega
 subst el e2 e5
 have hsz:(ByteArray.mk s.toArray).size=s.length:=by simp [ByteArray.size]
 have h3:=run_slice_string_h (P:=E.P) w t ⟨s.toArray⟩ M k (m:Int) (by omega) (by rw [hsz];omega)
 refine⟨_,by simp only [execOp,A,D,Option.map_none,De,pr,run_sliceAt_string w t _ _ _ _ M,h3,ql,BO];rfl,rO.2 ?_⟩
 congr 1
 apply ByteArray.ext
 simp
end
open Go.MapKept (Stamped)
section
variable [DecidableEq κ]
def tNx(b:Bool):Ty where
 p:=fun _ v=> ∃vs:List Value,v= .tuple (.mk (.bool b::vs))
 mono:=fun _ h=>h
end
section
variable [DecidableEq κ]{r:Nat}{left:List κ}{cur:Option κ}{k:κ}{i v:Operand}{dst:Option Nat}{ty:TypeId}
def Hu{f:Bool}(V:aE E.N G x (tNx f)):bP E O G ⟨dst,.extract x 0,ty,pos,after,g⟩ (K rB f):=
 .of_pure fun a w S _ _ hf=>by
  obtain⟨vs,A⟩:=V S a hf
  exact⟨.bool f,by simp [execOp,A,Instr.extract],i6.2 rfl⟩
end
open Go.RowKit

def OY(hs:kp w S)(h:Below w.heap.size w w')(hd:w.drawn<=w'.drawn):jl sR w S w' S/\kp w' S:=
 ⟨⟨h.os,h.tape,h.output,hd,h.size,fun k hk _=>h.block k hk,SH.le_refl _,fun _ _ _=>rfl⟩,hs.same fun b o H=>h.block b (hs.lt H)⟩
def JP{t:bZ}(h: ∀w:World,N2 w->Calls P f #[.string ⟨s.toArray⟩] w fun e w' =>e= .returned (.string ⟨t.toArray⟩)/\Below w.heap.size w w'):dn P f [K rS s] (K rS t):=fun w S vs hs hv=>by
 match vs,hv with
 |[v],⟨A,_⟩=>
  obtain rfl:=rO.1 A
  refine(JK (h w hs.tab) (fun w' hr=>by cases hr.1)).mono fun e w' ⟨⟨he,H⟩,hd⟩=>?_
  obtain⟨k1,k2⟩:=OY hs H hd
  exact⟨_,S,he,k1,k2,rO.2 rfl⟩

def pw(xs:List Int):bZ:=xs.map fun n=>UInt8.ofNat n.toNat
def D4{k:IntKind}{S:SH}: ∀{xs:List Int} {cs:List Value},qA (rI k) S cs xs->cs=xs.map (Value.int k)
 |[],cs,h=>by rw [show cs=[]from h];rfl
 |x::xs,cs,⟨a,b,e,A,D⟩=>by
  rw [e,show a=[.int k x]from A,D4 D]
  rfl
section
variable{ty:TypeId}
def Ox(ha:E.P.underlying t=some (.array n e))(ti:TI E.P e sz bytes agg z)(hn:Nat.ble n maxLen=true)(V:aE E.N G x (bn (o8 r n) xs)):bP E O G ⟨dst,.slice t x none none none,ty,pos,after,g⟩ (K (ek r) xs):= .of_pure fun a w S _ _ hf=>by
 obtain⟨b,off,c,T,fr,A,D,h3,h4⟩:=V S a hf
 have hz:(⟨b,off,none⟩:Addr).add 0=⟨b,off,none⟩:=by rw [gK,Dc]
 refine⟨.slice (some ⟨b,off,none⟩) n n,?_,ln.2 ⟨_,_,by rw [h3],by omega,qE hn,.inr ⟨b,off,c,T,fr,rfl,D,by rw [h3];exact h4⟩⟩⟩
 by_cases h0:n=0
 ·subst h0
  simp [execOp,A,Instr.sliceAt,g9 ha,ti.sizeOf,Instr.sliceBounds,Instr.sureAddr]
 ·simp [execOp,A,Instr.sliceAt,g9 ha,ti.sizeOf,Instr.sliceBounds,Instr.sureAddr,h0,hz]
def xj{ix:Operand}{i:Int}(M:E.P.underlying t=some (.array n e))(ti:TI E.P e sz bytes agg z)(hsz:r.sz=sz)(hag:r.agg=agg)(V:aE E.N G x (K (o8 r n) xs))(hi:aE E.N G ix (K (rI k) i))(hy:fg xs i=some y):bP E O G ⟨dst,.index t x ix,ty,pos,after,g⟩ (K r y):= .of_pure fun a w S _ _ hf=>by
 obtain⟨cs,A,D,h3⟩:=V S a hf
 have h1' :a.eval x= .agg cs.toArray:=A
 have h4:a.eval ix= .int k i:=eF.1 (hi S a hf)
 obtain⟨g1,g2⟩:=iF hy
 have hlt:i.toNat<xs.length:=(qB.1 g2).1
 have hg:=z7 h3 g2
 have hin:0<=i/\i<(n:Int):=⟨g1,by omega⟩
 refine⟨r.val ((cs.drop (i.toNat*r.sz)).take r.sz),?_,_,rfl,hg⟩
 have hp:(part e cs.toArray (i.toNat*sz)).run E.P w= .ok (r.val ((cs.drop (i.toNat*r.sz)).take r.sz)) w:=by
  subst hsz
  subst hag
  have hl:=r.len hg
  unfold part
  simp only [pr,ti.isAgg,ql]
  cases hA:r.agg with
  |true=>
   simp [ti.sizeOf,Rp.val,hA]
  |false=>
   have A:=r.sc hA
   rw [A,Db]at hl ⊢
   cases hd:cs.drop i.toNat with
   |nil=>rw [hd]at hl;simp at hl
   |cons v l=>
    have hv:cs[i.toNat]? =some v:=by
     have:=vD (xs:=cs) (i:=i.toNat) (j:=0)
     rw [hd]at this
     simpa using this.symm
    simp [Rp.val,hA,hv]
 simp [execOp,h1',h4,Instr.index,asIntOf,g9 M,hin,ti.sizeOf,hp]

def rq(s:bZ)(i:Nat):Nat×Nat:=Utf8.decode ⟨s.toArray⟩ i
def rQ(s:bZ):Nat->Nat->List (Int×Int)
 |0,_=>[]
 |f+1,i=>if i<s.length then((i:Int),((rq s i).1:Int))::rQ s f (i+(rq s i).2)else []
def IM(s:bZ):List (Int×Int):=rQ s (s.length+1) 0
def Tq(s:bZ)(i:Nat):1<=(rq s i).2:=by
 unfold rq Utf8.decode
 simp only []
 repeat' split
 all_goals simp
def Fm(r:Nat)(s:bZ)(left:List (Int×Int)):OE where
 fp:=fun j=>j=r
 p:=fun w S=>S r=none/\ ∃pos f,w.heap[r]? =some (.stringIter ⟨s.toArray⟩ pos)/\left=rQ s f pos/\s.length<pos+f
 here:=by
  rintro w S ⟨_,pos,f,h,_⟩ j rfl
  exact(yI.1 h).1
 kept:=by
  rintro C w w' S S' ⟨h0,pos,f,h,D⟩ k hC
  have hlt:=(yI.1 h).1
  exact⟨by rw [k.old r hlt (hC r rfl)];exact h0,pos,f,by rw [k.heap r hlt (hC r rfl)];exact h,D⟩
def JR(M:E.P.underlying t=some .string)(V:aE E.N G x (K rS s))(hd:Nat.blt d E.N.n=true)(k: ∀r,RG E ops tV rest (Fm r s (IM s)::O) ((d,Q (ai r 0))::G)):RG E ops tV (⟨some d,.range t x,ty,pos,after,none⟩::rest) O G:= .of rfl fun a w S st=>by
 have hv:a.eval x= .string ⟨s.toArray⟩:=rO.1 (V S a st.facts)
 have hrun:(execOp a.eval ⟨some d,.range t x,ty,pos,after,none⟩).run E.P w= .ok (.value (ai w.heap.size 0)) (w.alloc (.stringIter ⟨s.toArray⟩ 0)):=by
  simp [execOp,hv,Instr.range,g9 M,ai]
 refine⟨fun c h=>(by cases h),?_⟩
 rw [hrun]
 obtain⟨he,hs',hno⟩:=jw (w:=w) (.stringIter ⟨s.toArray⟩ 0) st.sat
 exact k w.heap.size _ _ S ⟨st.ext.step0 he,hs',rk st.own he ⟨hno,0,s.length+1,xW w _,rfl,by omega⟩ (fun b H=>by rw [show b=_ from H];exact eO _) st.base_le,st.facts.put hd rfl⟩
def LN{r:Nat}{left:List (Int×Int)}(V:aE E.N G x (Q (ai r 0)))(hd:Nat.blt d E.N.n=true)(h0:left=[]->RG E ops tV rest (Fm r s []::O) ((d,tNx false)::G))(A: ∀e l,left=e::l->RG E ops tV rest (Fm r s l::O) ((d,tT [K rB true,K (rI .i64) e.1,K (rI .i32) e.2])::G)):
  RG E ops tV (⟨some d,.next x true,ty,pos,after,none⟩::rest) (Fm r s left::O) G:= .of rfl fun a w S st=>by
 obtain⟨⟨⟨hno,ps,f,H,hl,hf⟩,hfp⟩,hap,hO⟩:=st.own
 have hv:a.eval x=ai r 0:=V S a st.facts
 have hsz:(ByteArray.mk s.toArray).size=s.length:=by simp [ByteArray.size]
 have hg:(getObj r).run E.P w= .ok (.stringIter ⟨s.toArray⟩ ps) w:=by
  simp [getObj,Sem.run,H]
 by_cases hp:ps<s.length
 ·obtain⟨f,rfl⟩: ∃f',f=f' +1:=⟨f-1,by omega⟩
  have hl2:left=((ps:Int),((rq s ps).1:Int))::rQ s f (ps+(rq s ps).2):=by rw [hl,rQ,bD hp]
  have hset:(setObj r (.stringIter ⟨s.toArray⟩ (ps+(rq s ps).2))).run E.P w= .ok () {w with heap:=w.heap.setIfInBounds r (.stringIter ⟨s.toArray⟩ (ps+(rq s ps).2))}:=by
   simp [setObj,Sem.run,H]
  have hrun:(execOp a.eval ⟨some d,.next x true,ty,pos,after,none⟩).run E.P w= .ok (.value (.tuple #[.bool true,.int .i64 ps,.int .i32 (rq s ps).1])) {w with heap:=w.heap.setIfInBounds r (.stringIter ⟨s.toArray⟩ (ps+(rq s ps).2))}:=by
   have h3:(Instr.next (ai r 0) true ty).run E.P w= .ok (.tuple #[.bool true,.int .i64 ps,.int .i32 (rq s ps).1]) {w with heap:=w.heap.setIfInBounds r (.stringIter ⟨s.toArray⟩ (ps+(rq s ps).2))}:=by
    unfold Instr.next ai
    simp only [pr,hg,ql,hsz,hp,gW]
    rw [show Utf8.decode ⟨s.toArray⟩ ps=rq s ps from rfl]
    simp only [pr,hset,ql]
    rfl
   simp [execOp,hv,h3]
  refine⟨fun c h=>(by cases h),?_⟩
  rw [hrun]
  have hblt:=(yI.1 H).1
  have hx' :jl (fun k=> ∃f∈[Fm r s left],f.fp k) w S {w with heap:=w.heap.setIfInBounds r (.stringIter ⟨s.toArray⟩ (ps+(rq s ps).2))} S:=
   ⟨rfl,rfl,rfl,eO _,by simp,fun k _ hk=>by
    have:r≠k:=fun e=>hk ⟨_,Ik _,e.symm⟩
    simp [this],SH.le_refl _,fun _ _ _=>rfl⟩
  have hs' :kp {w with heap:=w.heap.setIfInBounds r (.stringIter ⟨s.toArray⟩ (ps+(rq s ps).2))} S:=st.sat.same fun k o hk=>by
   have:r≠k:=fun e=>by subst e;rw [hno]at hk;cases hk
   simp [this]
  have hnew:(Fm r s (rQ s f (ps+(rq s ps).2))).p {w with heap:=w.heap.setIfInBounds r (.stringIter ⟨s.toArray⟩ (ps+(rq s ps).2))} S:=
   ⟨hno,_,f,by simp [hblt],rfl,by have:=Tq s ps;omega⟩
  refine A _ _ hl2 _ _ S ((st.turn (O1:=[Fm r s left]) (O2:=[Fm r s (rQ s f (ps+(rq s ps).2))]) hx' hs' ⟨⟨hnew,fun k hk=> .inl (ij _)⟩,fun _ h=>(by cases h),trivial⟩ (fun k ⟨g,hg,hk⟩=>?_)).put hd ?_)
  ·have:g=Fm r s (rQ s f (ps+(rq s ps).2)):=by simpa using hg
   subst this
   exact .inl ⟨_,Ik _,hk⟩
  ·exact⟨[.bool true,.int .i64 ps,.int .i32 (rq s ps).1],rfl,i6.2 rfl,eF.2 rfl,eF.2 rfl,trivial⟩
 ·have hl2:left=[]:=by
   rw [hl]
   cases f with
   |zero=>rfl
   |succ f=>rw [rQ,bv hp]
  have hrun:(execOp a.eval ⟨some d,.next x true,ty,pos,after,none⟩).run E.P w= .ok (.value (.tuple #[.bool false])) w:=by
   have h3:(Instr.next (ai r 0) true ty).run E.P w= .ok (.tuple #[.bool false]) w:=by
    unfold Instr.next ai
    simp only [pr,hg,ql,hsz,hp,ii]
    rfl
   simp [execOp,hv,h3]
  refine⟨fun c h=>(by cases h),?_⟩
  rw [hrun]
  subst hl2
  exact h0 rfl _ _ S (st.put hd ⟨[],rfl⟩)
def yq{t:Ty}{u:List Ty}{i:Nat}(hu:u[i]? =some t)(V:aE E.N G x (tT u)):bP E O G ⟨dst,.extract x i,ty,pos,after,g⟩ t:=D9 hu V
def VU{aA:List β->Prop}{Of:List β->List OE}{Gf:lh}(h: ∀l,aA l->(∀l2,l2.length<l.length->aA l2->LG E tV c (Of l2) Gf)->LG E tV c (Of l) Gf)(l:List β)(hz:aA l):LG E tV c (Of l) Gf:=by
 have key: ∀(n:Nat) (l:List β),l.length<=n->aA l->LG E tV c (Of l) Gf:=by
  intro n
  induction n with
  |zero=>intro l hn hz;exact h l hz fun l2 D _=>absurd D (by omega)
  |succ n ih=>intro l hn hz;exact h l hz fun l2 D hz2=>ih l2 (by omega) hz2
 exact key l.length l (eO _) hz
end

abbrev NG:=Nat->(Option Nat×Nat)×(Nat->Option Nat×Nat)
inductive NPl where
 |o
 |i (k:Nat)
 |l (k j:Nat)
section
def hd2(q:Nat->Option Nat×Nat)(zs:List (List α)):List Value:=zs.mapIdx fun j z=>Y (q j).1 (q j).2 z.length
def Yq(prj:β->List (List α))(g:NG)(x:List β):List Value:=x.mapIdx fun k y=>Y (g k).1.1 (g k).1.2 (prj y).length
def nsB(prj:β->List (List α))(l:Option Nat)(g:NG)(x:List β)(h:Option (Nat×Nat)):NPl->Option Nat
 | .o=>l
 | .i k=>(x[k]?).bind fun _=>(g k).1.1
 | .l k j=>if h=some (k,j)then none else((x[k]?).bind fun y=>(prj y)[j]?).bind fun _=>((g k).2 j).1
structure nstP(prj:β->List (List α))(r:Rp α)(T1 T2 T3:TypeId)(l:Option Nat)(cap n:Nat)(g:NG)(x:List β)(h:Option (Nat×Nat))(w:World)(S:SH):Prop where
 len:x.length=n
 out:xU false rV T1 l cap (Yq prj g x) w S
 inn: ∀k y,x[k]? =some y->xU false rV T2 (g k).1.1 (g k).1.2 (hd2 (g k).2 (prj y)) w S
 lvs: ∀k y j z,x[k]? =some y->(prj y)[j]? =some z->h≠some (k,j)->xU true r T3 ((g k).2 j).1 ((g k).2 j).2 z w S
 inj: ∀s t b,nsB prj l g x h s=some b->nsB prj l g x h t=some b->s=t
variable{prj:β->List (List α)}{T1 T2 T3:TypeId}{l:Option Nat}{g:NG}{x:List β}{h:Option (Nat×Nat)}
end
section
variable{prj:β->List (List α)}{T1 T2 T3:TypeId}{l:Option Nat}{g:NG}{x:List β}{h:Option (Nat×Nat)}
variable{ty:TypeId}{gd:Option (Nat×Bool)}
open Classical in
noncomputable def Yb(w:World)(S:SH)(P:Nat->Prop):SH:=fun b=>if P b then w.heap[b]? else S b
def g0(hs:List (Option Nat×Nat)):NG:=fun k=>(hs.getD k (none,0),fun _=>(none,0))
def tsB(l:Option Nat)(q:Nat->Option Nat×Nat)(zs:List (List α))(h:Option Nat):Option Nat->Option Nat
 |none=>l
 |some j=>if h=some j then none else(zs[j]?).bind fun _=>(q j).1
structure rowP(r:Rp α)(T2 T3:TypeId)(l:Option Nat)(cap n:Nat)(q:Nat->Option Nat×Nat)(zs:List (List α))(h:Option Nat)(w:World)(S:SH):Prop where
 len:zs.length=n
 inn:xU false rV T2 l cap (hd2 q zs) w S
 lvs: ∀j z,zs[j]? =some z->h≠some j->xU true r T3 (q j).1 (q j).2 z w S
 inj: ∀s t b,tsB l q zs h s=some b->tsB l q zs h t=some b->s=t
variable{q:Nat->Option Nat×Nat}{zs:List (List α)}{k:Option Nat}
end

def Fz(es:List Bool)(done:Array Bool):List Nat:=(List.range es.length).filter fun k=>(es[k]?).getD false&&done.getD k false
def Sw(es:List Bool)(i:Nat)(s:List Nat):List Nat:=(List.range es.length).filter fun k=>Nat.beq k i||s.contains k
def VO:List Nat->List Nat->Bool
 |[],[]=>true
 |a::s,b::t=>Nat.beq a b&&VO s t
 |_,_=>false
def Lr: ∀{s t:List Nat},VO s t=true->s=t
 |[],[],_=>rfl
 |a::s,b::t,h=>by
  simp only [VO,gU]at h
  rw [nU h.1,Lr h.2]
 |[],_::_,h=>by cases h
 |_::_,[],h=>by cases h
def PC:List (List Nat×((Nat->OI)->List OE))->List Nat->(Nat->OI)->List OE
 |[],_,_=>[]
 |p::r,s,σ=>bif VO p.1 s then p.2 σ else PC r s σ
def Ad{k:Nat}:k∈Fz es done↔es[k]? =some true/\done.getD k false=true:=by
 unfold Fz
 rw [List.mem_filter,List.mem_range,gU]
 constructor
 ·rintro⟨A,D,h3⟩
  refine⟨?_,h3⟩
  rw [jA A]at D ⊢
  simpa using D
 ·rintro⟨A,D⟩
  exact⟨(qB.1 A).1,by rw [A];rfl,D⟩
def O5{i:Nat}(h:es[i]? =some false):Fz es (done.setIfInBounds i true)=Fz es done:=by
 unfold Fz
 refine List.filter_congr fun k hk=>?_
 by_cases hik:i=k
 ·subst hik;rw [h];rfl
 ·rw [vf false hik]
def Tp{i:Nat}(h:es[i]? =some true)(hs:i<done.size):Fz es (done.setIfInBounds i true)=Sw es i (Fz es done):=by
 unfold Sw
 conv=>lhs;unfold Fz
 refine List.filter_congr fun k hk=>?_
 by_cases hik:i=k
 ·subst hik;simp [h,hs]
 ·rw [vf false hik]
  have H:Nat.beq k i=false:=by
   cases H:Nat.beq k i with
   |false=>rfl
   |true=>exact absurd (nU H).symm hik
  rw [H,yD,tQ,Ij,Ad,gU]
  constructor
  ·rintro⟨A,D⟩
   refine⟨?_,D⟩
   cases he:es[k]? with
   |none=>rw [he]at A;cases A
   |some b=>rw [he]at A;simpa using A
  ·rintro⟨A,D⟩
   exact⟨by rw [A];rfl,D⟩
def FT:List Nat->List (List Nat)
 |[]=>[[]]
 |k::l=>(FT l).map (k:: ·)++FT l
def CH(es:List Bool):List Nat:=(List.range es.length).filter fun k=>(es[k]?).getD false
def wy(p:Nat->Bool): ∀l:List Nat,l.filter p∈FT l
 |[]=>xN.2 rfl
 |k::l=>by
  unfold FT
  rw [xK]
  by_cases h:p k=true
  ·rw [List.filter_cons_of_pos h]
   exact .inl (zC.2 ⟨_,wy p l,rfl⟩)
  ·rw [List.filter_cons_of_neg h]
   exact .inr (wy p l)
def Rg(es:List Bool)(done:Array Bool):Fz es done∈FT (CH es):=by
 have:Fz es done=(CH es).filter fun k=>done.getD k false:=by
  unfold Fz CH
  rw [List.filter_filter]
  refine List.filter_congr fun k _=>Bool.and_comm ..
 rw [this]
 exact wy _ _
def Ym(L:List Oper)(es:List Bool)(i:Nat)(s:List Nat):Bool:=
 s.contains i||(CH es).any fun k=>if s.contains k then md L L.length k i||(CH es).any fun j=> !s.contains j&&md L L.length k j else md L L.length i k
def NR(L:List Oper)(es:List Bool)(i:Nat)(aas:List (List Nat)):Bool:=(FT (CH es)).all fun s=>Ym L es i s||aas.any fun a=>VO a s
def J3{α:Type}(p:α->Prop):List α->Prop
 |[]=>True
 |a::l=>p a/\J3 p l
def J3.mem{p:α->Prop}: ∀{l:List α},J3 p l-> ∀a∈l,p a
 |_::_,⟨h,_⟩,_,.head _=>h
 |_::_,⟨_,h⟩,_,.tail _ hm=>J3.mem h _ hm
abbrev VZ:=List (List Nat×((Nat->OI)->List OE))
def DT(E:En)(G:lh)(L:List Oper)(ts:List TS)(Ss:VZ)(es0:List Bool):Nat->List Oper->List Bool->Prop
 |_,[],_=>True
 |i,o::rest,false::es=>(∃(needs:List NS) (t:TS) (aas:List (List Nat)),ts[i]? =some t/\vB G ts needs/\(needs.all fun n=>nW L o i (n.at fun _=>nj))=true/\d6 i o=true/\O6 L es0 i t=true/\NR L es0 i aas=true/\o.dst.isSome=true/\
   J3 (fun s=> ∀σ,be E (PC Ss s σ) L.toArray (vq needs σ) o (t.at σ)) aas)/\DT E G L ts Ss es0 (i+1) rest es
 |i,o::rest,true::es=>(∃(needs:List NS) (t:TS) (aas:List (List Nat×List Nat)),ts[i]? =some t/\vB G ts needs/\(needs.all fun n=>nW L o i (n.at fun _=>nj))=true/\d6 i o=true/\O6 L es0 i t=true/\NR L es0 i (aas.map (·.1))=true/\(aas.all fun p=>VO (Sw es0 i p.1) p.2)=true/\
   J3 (fun p:List Nat×List Nat=> ∀σ,iN E L.toArray (PC Ss p.1 σ) (vq needs σ) o (fun x=>PC Ss p.2 (upd σ i x)) (fun x=>t.at (upd σ i x))) aas)/\DT E G L ts Ss es0 (i+1) rest es
 |_,_::_,[]=>False
def DT.get{ts:List TS}{Ss:VZ}{es0:List Bool}: ∀(r:List Oper) (es:List Bool) (k:Nat),DT E G L ts Ss es0 k r es-> ∀(j:Nat) (o:Oper),r[j]? =some o->
    ∃e,es[j]? =some e/\ ∃(needs:List NS) (t:TS),ts[k+j]? =some t/\vB G ts needs/\(needs.all fun n=>nW L o (k+j) (n.at fun _=>nj))=true/\d6 (k+j) o=true/\O6 L es0 (k+j) t=true/\
      (match e with
       |false=>o.dst.isSome=true/\ ∃aas,NR L es0 (k+j) aas=true/\J3 (fun s=> ∀σ,be E (PC Ss s σ) L.toArray (vq needs σ) o (t.at σ)) aas
       |true=> ∃aas:List (List Nat×List Nat),NR L es0 (k+j) (aas.map (·.1))=true/\(aas.all fun p=>VO (Sw es0 (k+j) p.1) p.2)=true/\J3 (fun p:List Nat×List Nat=> ∀σ,iN E L.toArray (PC Ss p.1 σ) (vq needs σ) o (fun x=>PC Ss p.2 (upd σ (k+j) x)) (fun x=>t.at (upd σ (k+j) x))) aas):=by
  intro r
  induction r with
  |nil=>intro es k _ j o h;simp at h
  |cons p r ih=>
    intro es k h j o ho
    cases es with
    |nil=>exact h.elim
    |cons e es=>
      cases e with
      |false=>
        obtain⟨⟨needs,t,aas,g1,g2,g3,g4,g5,g6,g7,g8⟩,D⟩:=h
        cases j with
        |zero=>
          simp at ho;subst ho
          exact⟨false,rfl,needs,t,g1,g2,g3,g4,g5,g7,aas,g6,g8⟩
        |succ j=>
          obtain⟨e',g1,g2⟩:=ih es (k+1) D j o (by simpa using ho)
          refine⟨e',by simpa using g1,?_⟩
          rw [show k+1+j=k+(j+1)from by omega]at g2
          exact g2
      |true=>
        obtain⟨⟨needs,t,aas,g1,g2,g3,g4,g5,g6,g7,g8⟩,D⟩:=h
        cases j with
        |zero=>
          simp at ho;subst ho
          exact⟨true,rfl,needs,t,g1,g2,g3,g4,g5,aas,g6,g7,g8⟩
        |succ j=>
          obtain⟨e',g1,g2⟩:=ih es (k+1) D j o (by simpa using ho)
          refine⟨e',by simpa using g1,?_⟩
          rw [show k+1+j=k+(j+1)from by omega]at g2
          exact g2
structure Up(E:En)(G:lh)(l:List Oper)(ts:List TS)(Ss:VZ)(es:List Bool)(done:Array Bool)(a:Act)(w:World)(S:SH)(σ:Nat->OI):Prop where
 ext:jl E.B E.w0 E.S0 w S
 sat:kp w S
 own:cN E.base E.B w S (PC Ss (Fz es done) σ)
 size:a.tmps.size=E.N.n
 defers:a.defers=E.N.ds
 dsz:done.size=l.length
 down: ∀j o,l[j]? =some o->done.getD j false=true-> ∀e∈o.after,Region.binds .any e=true->done.getD e.on false=true
 old: ∀k t,look G k=some t->(∀j o,l[j]? =some o->done.getD j false=true->o.dst≠some k)->t.p S (a.tmps.getD k undef)
 new: ∀j o d p,l[j]? =some o->done.getD j false=true->o.dst=some d->ts[j]? =some p->(p.at σ).p S (a.tmps.getD d undef)
 deps: ∀j p,done.getD j false=true->ts[j]? =some p-> ∀k∈p.1,done.getD k false=true
section
variable{ts:List TS}{Ss:VZ}
def Up.need(h:Up E G L ts Ss es done a w S σ){i:Nat}(hi:L[i]? =some o)(hun:done.getD i true=false)(hwait: ∀e∈o.after,Region.binds .any e=true->done.getD e.on false=true){needs:List NS}(A:vB G ts needs)(D:(needs.all fun n=>nW L o i (n.at fun _=>nj))=true):cu E.N S a (vq needs σ):=by
 have hlt:i<done.size:=by rw [h.dsz];exact(qB.1 hi).1
 have hun' :done.getD i false=false:=by
  simp [hlt]at hun ⊢;exact hun
 refine⟨h.size,h.defers,?_⟩
 have key: ∀n∈needs,(n.ty σ).p S (a.tmps.getD n.slot undef):=by
  intro n hn
  have hs:=mo.1 D n hn
  have ho:=A.mem n hn
  unfold nW NS.at at hs
  unfold TJ at ho
  cases hsrc:n.src with
  |some j=>
   rw [hsrc]at hs ho
   simp only [gU]at hs
   obtain⟨hs1,hs2⟩:=hs
   cases hj:L[j]? with
   |none=>rw [hj]at hs1;cases hs1
   |some p=>
    rw [hj]at hs1
    cases hd:p.dst with
    |none=>simp only [hd]at hs1;cases hs1
    |some d=>
     simp only [hd]at hs1
     have hd' :=nU hs1
     subst hd'
     have hdone:done.getD j false=true:=by
      unfold BS at hs2
      obtain⟨e,he0,H⟩:=Cq.1 hs2
      have he:e∈o.after:=by simpa using he0
      simp only [gU]at H
      have:=hwait e he H.2
      rwa [nU H.1]at this
     have hm:=ho σ
     cases hf:ts[j]? with
     |none=>rw [hf]at hm;simp at hm
     |some f=>
      rw [hf]at hm
      have e:f.at σ=n.ty σ:=by simpa using hm
      rw [<-e]
      exact h.new j p n.slot f hj hdone hd hf
  |none=>
   rw [hsrc]at hs ho
   refine h.old _ _ (ho σ) fun j p hj hdone hd=>?_
   have:=mo.1 hs p (qD hj)
   simp only [hd,Nat.beq_refl,oI,yD]at this
   unfold BS at this
   obtain⟨e,he0,H⟩:=Cq.1 this
   have he:e∈p.after:=by simpa using he0
   simp only [gU]at H
   have h3:=h.down j p hj hdone e he H.2
   rw [nU H.1]at h3
   rw [h3]at hun'
   cases hun'
 clear A D
 intro k t hk
 unfold vq at hk
 induction needs with
 |nil=>simp [iR,look]at hk
 |cons n needs ih=>
  simp only [qT]at hk
  unfold iR look at hk
  by_cases H:Nat.beq n.slot k=true
  ·have hb' :Nat.beq (n.at σ).slot k=true:=H
   rw [hb']at hk
   have:=nU H
   subst this
   have h9:some (n.at σ).ty=some t:=by simpa using hk
   have e:n.ty σ=t:=oD h9
   rw [<-e]
   exact key n (lL ..)
  ·rw [AP]at H
   have hb' :Nat.beq (n.at σ).slot k=false:=H
   rw [hb']at hk
   exact ih (fun m hm=>key m (ma _ hm)) hk
def Up.step{σ' :Nat->OI}(h:Up E G L ts Ss es done a w S σ){i:Nat}{p0:TS}{C:Nat->Prop}(hi:L[i]? =some o)(hdN: ∀d,o.dst=some d->d<E.N.n)(hs2: ∀d,o.dst=some d-> ∀j p,L[j]? =some p->done.getD j false=true->p.dst=some d->i=j)(hwait: ∀e∈o.after,Region.binds .any e=true->done.getD e.on false=true)(M:ts[i]? =some p0)(hun:done.getD i true=false)(hdep: ∀k∈p0.1,k=i\/done.getD k false=true)(hext:jl C w S w' S')(hC: ∀b,C b->E.base<=b\/E.B b)(hsat:kp w' S')(hown:cN E.base E.B w' S' (PC Ss (Fz es (done.setIfInBounds i true)) σ'))(hσ: ∀k,k≠i->σ' k=σ k)(hv:(p0.at σ').p S' v):
  Up E G L ts Ss es (done.setIfInBounds i true) (a.put o.dst v) w' S' σ' :=by
 have hlt:i<done.size:=by rw [h.dsz];exact(qB.1 hi).1
 have hset: ∀j,(done.setIfInBounds i true).getD j false=true->j=i\/done.getD j false=true:=fun j hj=>by
  by_cases hij:i=j
  ·exact .inl hij.symm
  ·rw [vf false hij]at hj;exact .inr hj
 have hseti:(done.setIfInBounds i true).getD i false=true:=by simp [hlt]
 have hun' :done.getD i false=false:=by simp [hlt]at hun ⊢;exact hun
 have hput: ∀k,(∀d,o.dst=some d->d≠k)->(a.put o.dst v).tmps.getD k undef=a.tmps.getD k undef:=fun k hk=>by
  cases hd:o.dst with
  |none=>rfl
  |some d=>
   have hda:d<a.tmps.size:=by rw [h.size];exact hdN d hd
   rw [sO hda,bv (hk d hd)]
 refine⟨h.ext.step hext hC,hsat,hown,?_,?_,by simp [h.dsz],fun j p hj hdone e he H=>?_,fun k u hk hno=>?_,fun j p d' u hj hdone hd' hu=>?_,fun j u hj hu k hk=>?_⟩
 ·cases o.dst with
  |none=>exact h.size
  |some d=>simp [Act.put,h.size]
 ·cases o.dst with
  |none=>exact h.defers
  |some d=>exact h.defers
 ·rcases hset j hdone with rfl|hj'
  ·rw [hi]at hj
   have:o=p:=by simpa using hj
   subst this
   exact xJ (hwait e he H)
  ·exact xJ (h.down j p hj hj' e he H)
 ·rw [hput k fun d hd e=>hno i o hi hseti (by rw [hd,e])]
  exact u.mono hext.keep (h.old k u hk fun j p hj hdone=>hno j p hj (xJ hdone))
 ·by_cases hij:j=i
  ·subst hij
   rw [hi]at hj
   have:o=p:=by simpa using hj
   subst this
   have hda:d' <a.tmps.size:=by rw [h.size];exact hdN d' hd'
   rw [hd',sO hda,bD rfl]
   rw [M]at hu
   have:p0=u:=by simpa using hu
   subst this
   exact hv
  ·have hj' :=(hset j hdone).resolve_left hij
   rw [hput d' fun d hd e=>by subst e;exact hij (hs2 d hd j p hj hj' hd').symm]
   have e1:u.at σ' =u.at σ:=congrArg u.2 (Ih fun k hk=>hσ k fun e=>by
     subst e
     rw [h.deps j u hj' hu k hk]at hun';cases hun')
   rw [e1]
   exact Ty.mono _ hext.keep (h.new j p d' u hj hj' hd' hu)
 ·rcases hset j hj with rfl|hj'
  ·rw [M]at hu
   have:p0=u:=by simpa using hu
   subst this
   rcases hdep k hk with rfl|h'
   ·exact hseti
   ·exact xJ h'
  ·exact xJ (h.deps j u hj' hu k hk)
end
def Im{l t:List Oper}{ts:List TS}{Ss:VZ}(hsl:v7 E.N.n [] l=true)(hlen:ts.length=l.length)(hesl:es.length=l.length)(hd:DT E G (l++t) ts Ss es 0 l es)(M:yh (l++t) l.length t.length=true)(hQ: ∀a w S σ,St E (PC Ss (CH es) σ) (I1 l (RO ts σ) G) a w S->wpListIn (fw E.r) 0 E.P (l++t).toArray tV t a w):
  ∀(fuel:Nat) (done:Array Bool) (a:Act) (w:World) (S:SH) (σ:Nat->OI),kb done=fuel->(∀j,l.length<=j->done.getD j false=false)->Up E G (l++t) ts Ss es done a w S σ->wpAnyIn (fw E.r) 0 E.P .any (l++t).toArray tV fuel done a w:=by
 have hL1: ∀i o,i<l.length->(l++t)[i]? =some o->l[i]? =some o:=fun i o hi h=>by rwa [zG hi]at h
 have hL2: ∀i o,l[i]? =some o->(l++t)[i]? =some o:=fun i o h=>by rw [zG (qB.1 h).1];exact h
 have htail: ∀m o,l.length<=m->(l++t)[m]? =some o->uZ (l++t) m=true/\d6 m o=true:=fun m o hm ho=>by
  have hml:m<(l++t).length:=(qB.1 ho).1
  rw [mV]at hml
  unfold yh at M
  have:=mo.1 M (m-l.length) (by simp;omega)
  rw [show l.length+(m-l.length)=m from by omega,ho]at this
  simp only [gU]at this
  exact⟨this.1,this.2.1⟩
 have hget:=fun i o (hi:l[i]? =some o)=>DT.get l es 0 hd i o hi
 have hedge: ∀i o,(l++t)[i]? =some o->d6 i o=true:=fun i o hi=>by
  rcases mb i l.length with h|h
  ·obtain⟨_,_,_,_,_,_,_,h,_⟩:=hget i o (hL1 i o h hi)
   simpa using h
  ·exact(htail i o h hi).2
 obtain⟨hs1,hs2⟩:=BW l [] hsl
 have fin: ∀fuel done a w S σ,kb done=fuel->(∀j,l.length<=j->done.getD j false=false)->Up E G (l++t) ts Ss es done a w S σ->(∀i,i<l.length->done.getD i false=true)->wpAnyIn (fw E.r) 0 E.P .any (l++t).toArray tV fuel done a w:=by
  intro fuel done a w S σ hu hfree h hall
  have hdn:Fz es done=CH es:=by
   unfold Fz CH
   refine List.filter_congr fun k hk=>?_
   rw [hall k (by rw [<-hesl];exact List.mem_range.1 hk),Bool.and_true]
  have hown:=h.own
  rw [hdn]at hown
  refine yL (n:=l.length) (fun m o hm ho=>(htail m o hm ho).1) hedge t l.length done fuel a w (eO _) (by simp) h.dsz (fun j hj=>⟨fun hjd=>?_,fun hlt=>hall j hlt⟩) hu
   (hQ a w S σ ⟨h.ext,h.sat,hown,h.size,h.defers,fun j u hj=>?_⟩)
  ·rcases mb j l.length with h' |h'
   ·exact h'
   ·rw [hfree j h']at hjd;cases hjd
  ·rcases Gj l (RO ts σ) j u (by unfold RO;rw [xX];exact hlen) hj with⟨i,o,A,D,h3⟩|⟨A,D⟩
   ·unfold RO at h3
    rw [FK]at h3
    cases hf:ts[i]? with
    |none=>rw [hf]at h3;simp at h3
    |some f=>
     rw [hf]at h3
     have e:f.at σ=u:=by simpa using h3
     rw [<-e]
     exact h.new i o j f (hL2 i o A) (hall i (qB.1 A).1) D hf
   ·refine h.old j u A fun i o ho hdn=>?_
    rcases mb i l.length with h' |h'
    ·exact D o (qD (hL1 i o h' ho))
    ·rw [hfree i h']at hdn;cases hdn
 have lower: ∀done a w S σ i,(∀j,l.length<=j->done.getD j false=false)->Up E G (l++t) ts Ss es done a w S σ->i∈Region.ready .any (l++t).toArray done->l.length<=i-> ∀j,j<l.length->done.getD j false=true:=by
  intro done a w S σ i hfree h hi hge j hj
  obtain⟨hun,p,hp,hwait⟩:=rK.1 hi
  have hp' :(l++t)[i]? =some p:=by simpa using hp
  have hcov:=(htail i p hge hp').1
  unfold uZ at hcov
  have hre:=mo.1 hcov j (by simp;omega)
  exact fI h.down _ i j (fun q hq e he H=>by
   have:q=p:=by rw [hp']at hq;simpa using hq.symm
   subst this
   exact hwait e he H) hre
 intro fuel
 induction fuel with
 |zero=>
  intro done a w S σ hu hfree h
  exact fin 0 done a w S σ hu hfree h fun i hi=>sI hu (by rw [h.dsz,mV];omega)
 |succ fuel ih=>
  intro done a w S σ hu hfree h
  by_cases hall: ∀i,i<l.length->done.getD i false=true
  ·exact fin _ done a w S σ hu hfree h hall
  have hready0: ∀m i,i<m->i<l.length->Region.ready .any (l++t).toArray done=[]->done.getD i false=true:=by
   intro m
   induction m with
   |zero=>intro i h;omega
   |succ m ihm=>
    intro i him hil hr
    have his:i<done.size:=by rw [h.dsz,mV];omega
    by_cases hdn:done.getD i true=true
    ·rw [<-m9 his];exact hdn
    ·exfalso
     obtain⟨o,ho⟩: ∃o,(l++t)[i]? =some o:=⟨l[i],hL2 i _ (jA hil)⟩
     have hmem:i∈Region.ready .any (l++t).toArray done:=by
      rw [rK]
      refine⟨by simpa using hdn,o,by simpa using ho,fun e he H=>?_⟩
      have:=hedge i o ho
      unfold d6 at this
      have:=mo.1 this e (by simpa using he)
      simp only [H,oI,yD,vL]at this
      exact ihm e.on (by omega) (by omega) hr
     rw [hr]at hmem;cases hmem
  refine⟨fun hr=>absurd (fun i hi=>hready0 (i+1) i (by omega) hi hr) hall,fun i hi=>?_⟩
  have hil:i<l.length:=by
   rcases mb i l.length with h' |h'
   ·exact h'
   ·exact absurd (lower done a w S σ i hfree h hi h') hall
  obtain⟨hun,o,ho,hwait⟩:=rK.1 hi
  have ho' :(l++t)[i]? =some o:=by simpa using ho
  have hol:=hL1 i o hil ho'
  obtain⟨e,he,needs,u,A,D,h3,_,h4,h5⟩:=hget i o hol
  rw [pz]at A h3 h4
  have hF:=h.need ho' hun hwait D h3
  have his:i<done.size:=by rw [h.dsz,mV];omega
  have hun' :done.getD i false=false:=by rw [<-m9 his];exact hun
  have hu' :kb (done.setIfInBounds i true)=fuel:=by have:=pG hun;omega
  have huq: ∀d,o.dst=some d-> ∀j p,(l++t)[j]? =some p->done.getD j false=true->p.dst=some d->i=j:=fun d hdd j p hj hjd hpd=>by
   rcases mb j l.length with h' |h'
   ·exact hs2 i j o p d hol (hL1 j p h' hj) hdd hpd
   ·rw [hfree j h']at hjd;cases hjd
  have hfree' : ∀j,l.length<=j->(done.setIfInBounds i true).getD j false=false:=fun j hj=>by
   rw [vf false (by omega)];exact hfree j hj
  have hbl:E.base<=w.heap.size:=h.ext.size
  have hwaits: ∀q,(l++t)[i]? =some q-> ∀e∈q.after,Region.binds .any e=true->done.getD e.on false=true:=fun q hq e he H=>by
   have:q=o:=by rw [ho']at hq;simpa using hq.symm
   subst this
   exact hwait e he H
  have hdpp: ∀k∈u.1,k=i\/done.getD k false=true:=fun k hk=>by
   have:=mo.1 h4 k hk
   simp only [gU,vN]at this
   rcases this.2 with H|H
   ·exact .inl (nU H)
   ·exact .inr (fI h.down _ i k hwaits H)
  have hdNN: ∀d,o.dst=some d->d<E.N.n:=fun d hd=>(hs1 o (qD hol) d hd).1
  unfold wpOpIn
  rw [ho]
  show if _ then _ else _
  -- just these effects stand
  have hpos:Ym (l++t) es i (Fz es done)=false:=by
   rw [FL]
   intro hno
   unfold Ym at hno
   rw [vN]at hno
   rcases hno with hc|hc
   ·have:=(Ad.1 (Ij.1 hc)).2
    rw [this]at hun';cases hun'
   ·obtain⟨k,hk1,hk2⟩:=Cq.1 hc
    have hke:es[k]? =some true:=by
     unfold CH at hk1
     rw [List.mem_filter,List.mem_range]at hk1
     have h7:=hk1.2
     rw [jA hk1.1]at h7 ⊢
     simpa using h7
    by_cases hin:(Fz es done).contains k=true
    ·rw [bD hin,vN]at hk2
     have hkd:=(Ad.1 (Ij.1 hin)).2
     rcases hk2 with H|H
     ·have:=fI h.down _ k i (fun q hq e he H=>h.down k q hq hkd e he H) H
      rw [this]at hun';cases hun'
     ·obtain⟨j,hj1,hj2⟩:=Cq.1 H
      rw [gU,vO]at hj2
      have hje:es[j]? =some true:=by
       unfold CH at hj1
       rw [List.mem_filter,List.mem_range]at hj1
       have h7:=hj1.2
       rw [jA hj1.1]at h7 ⊢
       simpa using h7
      have hjd:=fI h.down _ k j (fun q hq e he H=>h.down k q hq hkd e he H) hj2.2
      have:=Ij.2 (Ad.2 ⟨hje,hjd⟩)
      rw [hj2.1]at this;cases this
    ·rw [bv hin]at hk2
     have hkd:=fI h.down _ i k hwaits hk2
     exact hin (Ij.2 (Ad.2 ⟨hke,hkd⟩))
  have hwin: ∀aas:List (List Nat),NR (l++t) es i aas=true->Fz es done∈aas:=by
   intro aas hw
   unfold NR at hw
   have:=mo.1 hw _ (Rg es done)
   rw [hpos,yD]at this
   obtain⟨b,hb1,hb2⟩:=Cq.1 this
   rw [<-Lr hb2];exact hb1
  cases e with
  |false=>
   simp only at h5
   obtain⟨hdS,aas,hw,h5⟩:=h5
   rw [pz]at hw
   obtain⟨d,hdd⟩:=Option.isSome_iff_exists.1 hdS
   have h6:=h5.mem _ (hwin aas hw) σ a w S h.sat h.own hF
   have hdq:=O5 (done:=done) he
   by_cases hw:Region.wanted o (yielded (l++t).toArray a.tmps)=true
   ·rw [bD hw]at h6 ⊢
    refine jZ (fun a' w' ⟨v,S',ha,V,hs,hv⟩=>?_) h6
    subst ha
    exact ih _ _ _ S' _ hu' hfree' (h.step ho' hdNN huq hwait A hun hdpp V (fun _ H=>H.elim) hs (by rw [hdq];exact h.own.ext0 V) (fun _ _=>rfl) hv)
   ·rw [bv hw]at h6 ⊢
    exact⟨fun _ _=>trivial,ih _ _ _ S _ hu' hfree' (h.step ho' hdNN huq hwait A hun hdpp (jl.refl sR _ _) (fun _ H=>H.elim) h.sat (by rw [hdq];exact h.own) (fun _ _=>rfl) h6)⟩
  |true=>
   simp only [pz]at h5
   obtain⟨aas,hw,hins,h5⟩:=h5
   obtain⟨p,hp1,hp2⟩:=zC.1 (hwin _ hw)
   have hp3:=Lr (mo.1 hins p hp1)
   have h6:=h5.mem p hp1 σ a w S h.sat (by rw [hp2];exact h.own) hF hbl
   have hdq:Fz es (done.setIfInBounds i true)=p.2:=by rw [Tp he his,<-hp2,hp3]
   by_cases hw:Region.wanted o (yielded (l++t).toArray a.tmps)=true
   ·rw [bD hw]at h6 ⊢
    refine jZ (fun a' w' ⟨v,S',x,ha,V,hs,hown,hv⟩=>?_) h6
    subst ha
    exact ih _ _ _ S' _ hu' hfree' (h.step ho' hdNN huq hwait A hun hdpp V (fun b ⟨f,hf,H⟩=>(cN.mem h.own f (by rw [<-hp2];exact hf)).2 b H) hs (by rw [hdq];exact hown) (fun k hk=>G6 σ x hk) hv)
   ·rw [bv hw]at h6 ⊢
    obtain⟨x,hown,hv⟩:=h6
    exact⟨fun _ _=>trivial,ih _ _ _ S _ hu' hfree' (h.step ho' hdNN huq hwait A hun hdpp (jl.refl sR _ _) (fun _ H=>H.elim) h.sat (by rw [hdq];exact hown) (fun k hk=>G6 σ x hk) hv)⟩
def J2{id:Nat}(m:Nat)(ts:List TS)(es:List Bool)(Ss:VZ)(hO: ∀σ,PC Ss [] σ=O)(hm:E.P.follows .mixedOrders=true)(hsl:v7 E.N.n [] (L.take m)=true)(hlen:ts.length=(L.take m).length)(hesl:es.length=(L.take m).length)(M:yh L (L.take m).length (L.drop m).length=true)(hd:DT E G L ts Ss es 0 (L.take m) es)(k: ∀σ:Nat->OI,RG E L.toArray tV (L.drop m) (PC Ss (CH es) σ) (I1 (L.take m) (RO ts σ) G)):CG E tV (.region id L.toArray true) O G:=fun a w S st=>by
 have hL:L=L.take m++L.drop m:=(qU m L).symm
 generalize L.take m=l at hL hsl hlen hesl M hd k
 generalize L.drop m=t at hL M k
 subst hL
 refine wpIn_region_any hm ?_
 obtain⟨he,hs⟩:=AM (w:=w) st.sat
 have hdn0:Fz es (Array.replicate (l++t).toArray.size false)=[]:=by
  unfold Fz
  refine List.filter_eq_nil_iff.2 fun k hk=>?_
  simp [yH]
  intro _
  split<;>simp
 refine Im hsl hlen hesl hd M (fun a w S σ st=>k σ a w S st) _ _ _ _ S (fun _=>nj) ?_ (fun j _=>?_)
  ⟨st.ext.step0 he,hs,by rw [hdn0,hO];exact st.own.ext0 he,st.facts.size,st.facts.defers,by simp,fun j o hj hdone=>?_,fun k t hk _=>st.facts.at_ k t hk,fun j o d t hj hdone=>?_,fun j p hdone=>?_⟩
 ·unfold kb;rw [L9,L0];simp
 ·simp [yH];split<;>rfl
 ·simp [yH]at hdone
  split at hdone<;>simp at hdone
 ·simp [yH]at hdone
  split at hdone<;>simp at hdone
 ·simp [yH]at hdone
  split at hdone<;>simp at hdone

def cN.perm(h:O.Perm O'):cN base B w S O->cN base B w S O' :=by
 induction h with
 |nil=>exact id
 |cons x p ih=>
  rintro⟨A,D,h3⟩
  exact⟨A,fun f hf=>D f (p.mem_iff.2 hf),ih h3⟩
 |swap x y l=>
  rintro⟨A,D,h3,h4,h5⟩
  refine⟨h3,fun f hf k hk hfk=>?_,A,fun f hf=>D f (ma _ hf),h5⟩
  rcases eW.1 hf with rfl|hf
  ·exact D x (lL ..) k hfk hk
  ·exact h4 f hf k hk hfk
 |trans _ _ ih1 ih2=>exact fun k=>ih2 (ih1 k)
def sP(O:List OE):List Nat->List OE
 |[]=>[]
 |i::l=>match O[i]? with
  |some e=>e::sP O l
  |none=>sP O l
def Ab(O:List OE): ∀a b:List Nat,sP O (a++b)=sP O a++sP O b
 |[],_=>rfl
 |i::a,b=>by
  simp only [tR,sP]
  split<;>simp [Ab O a b]
def KJ{a b:List Nat}(h:a.Perm b):(sP O a).Perm (sP O b):=by
 induction h with
 |nil=>exact .nil
 |cons x p ih=>
  simp only [sP]
  split
  ·exact .cons _ ih
  ·exact ih
 |swap x y l=>
  simp only [sP]
  cases V:O[x]? <;>cases hy:O[y]? <;>simp<;>exact .swap ..
 |trans _ _ ih1 ih2=>exact ih1.trans ih2
def IW(O:List OE):sP O (List.range O.length)=O:=by
 have key: ∀n,n<=O.length->sP O (List.range n)=O.take n:=by
  intro n
  induction n with
  |zero=>intro _;rfl
  |succ n ih=>
   intro h
   rw [List.range_succ,Ab,ih (by omega)]
   simp only [sP]
   rw [jA (by omega),J9 (by omega)]
 rw [key _ (eO _),xY]
def cN.pick(l:List Nat)(hl:l.isPerm (List.range O.length)=true)(h:cN base B w S O):cN base B w S (sP O l):=
 h.perm (by
  have:=KJ (O:=O) (List.isPerm_iff.1 hl)
  rw [IW]at this
  exact this.symm)
def Lf(P:Program)(T:TypeId)(i:Nat):Option (TypeId×Nat):=
 match P.underlying T with
 |some (.struct fs)=>(fs[i]?).map fun f=>(f.type,f.offset)
 |_=>none
def Qu{ty:TypeId}{get:α->β}{v:α}{ft:TypeId}{i:Nat}(hT:Lf E.P T i=some (ft,off))(ti:TI E.P ft sz bytes agg z)(hsz:q.sz=sz)(hag:q.agg=agg)(hr:r.agg=true)(hq:iZ r off q get)(V:aE E.N G x (K r v)):
  bP E O G ⟨dst,.field T x i,ty,pos,after,g⟩ (K q (get v)):= .of_pure fun a w S _ _ hF=>by
 obtain⟨cs,A,D⟩:=V S a hF
 have h1' :a.eval x= .agg cs.toArray:=by rw [A];unfold Rp.val;rw [hr];rfl
 unfold Lf at hT
 split at hT
 ·rename_i fs hu
  cases hf:fs[i]? with
  |none=>rw [hf]at hT;cases hT
  |some f=>
   rw [hf]at hT
   simp only [De,C9,FH]at hT
   obtain⟨e1,e2⟩:=hT
   subst e1 e2
   have h3:=oU ti hsz hag hq D w
   exact⟨_,by simp [execOp,h1',Instr.field,g9 hu,hf,asAgg,h3],_,rfl,hq S cs v D⟩
 ·cases hT

section
section
variable{ty:TypeId}
end
def rl{ty:TypeId}{l:Option Nat}{o:Nat}(hm:jR mm r U l cap xs∈O)(hy:fg xs j=some y)(hp:aE E.N G p (Q (cJ l o))):
  bP E O G ⟨dst,.nilCheck p,ty,pos,after,g⟩ (Q (cJ l o)):=
 .of_pure fun a w S _ ho hF=>by
  have A:a.eval p=cJ l o:=hp S a hF
  obtain⟨_,hy'⟩:=iF hy
  obtain⟨b,cur,rfl,_⟩:=o7 (ho.mem _ hm).1 hy'
  exact⟨cJ (some b) o,by simp [execOp,A,cJ,ai],rfl⟩
end
open Go.ChangeShapes Go.WideShapes Go.ChangeAt

variable{hb:Type}{W:World}{enc:TypeId×Value->hb}
section
def I8(W:World):SH:=fun b=>W.heap[b]?
def UR(W:World)(hg: ∀p∈glob,∃c T fr,W.heap[p.1]? =some (.cells c T fr)/\c.toList.take p.2.length=p.2)(M: ∀w' :World,(∀(b:Nat) (o:Obj),W.heap[b]? =some o-> ∃o',w'.heap[b]? =some o' /\Fh o o')->N2 w'):kp W (I8 W):=⟨fun _ o h=>⟨o,h,ua o⟩,hg,M⟩
def vz(enc:TypeId×Value->hb)(P:Program)(W:World){α:Type}(t:TypeId)(r:Rp α):Prop:=
 P.cellsOf t=r.sz/\ ∀fuel cs x,DataW.trod enc P W 0 (fun _=>true) true fuel t cs=some x-> ∃y,r.rc (I8 W) cs y
def PN(h:P.underlying t=some .bool)(hc:P.cellsOf t=1):vz enc P W t rB:=⟨hc,fun fuel cs x V=>by
 cases fuel with
 |zero=>simp [DataW.trod]at V
 |succ n=>
  unfold DataW.trod at V
  rw [h]at V
  split at V
  all_goals try (injections;done)
  ·exact⟨_,rfl⟩⟩
def uc{α β:Type}{f:α->Option β}: ∀{l:List α} {r:List β},l.mapM f=some r->r.length=l.length/\ ∀(i:Nat) (x:α),l[i]? =some x-> ∃y,r[i]? =some y/\f x=some y
 |[],r,h=>by
  simp at h
  subst h
  exact⟨rfl,fun i x V=>by simp at V⟩
 |a::l,r,h=>by
  rw [List.mapM_cons]at h
  cases hf:f a with
  |none=>rw [hf]at h;simp at h
  |some b=>
   rw [hf]at h
   cases hm:l.mapM f with
   |none=>rw [hm]at h;simp at h
   |some r' =>
    rw [hm]at h
    simp at h
    subst h
    obtain⟨A,D⟩:=uc hm
    refine⟨by simp [A],fun i x V=>?_⟩
    cases i with
    |zero=>simp at V;subst V;exact⟨b,rfl,hf⟩
    |succ i=>exact D i x (by simpa using V)
def BB{a:Addr}(h:W.cell? a=some v):a.spot=none/\ ∃c E fr,W.heap[a.block]? =some (.cells c E fr)/\c[a.off]? =some v:=by
 unfold World.cell? at h
 cases ho:W.heap[a.block]? with
 |none=>rw [ho]at h;cases h
 |some o=>
  rw [ho]at h
  cases o with
  |cells c E fr=>
   simp only at h
   by_cases hs:a.spot.isSome=true
   ·rw [bD hs]at h;cases h
   ·rw [bv hs]at h
    exact⟨by cases hq:a.spot with
     |none=>rfl
     |some s=>rw [hq]at hs;simp at hs,c,E,fr,rfl,h⟩
  |_=>simp at h
def GJ(a:Addr):a.add 0=a:=by unfold Addr.add;rfl
def LI(h:W.cells? 0 ⟨b,off,none⟩ n=some cs)(hn:0<n): ∃c E fr,W.heap[b]? =some (.cells c E fr)/\cs=(c.toList.drop off).take n:=by
 unfold World.cells? at h
 rw [bD (ij _)]at h
 obtain⟨A,D⟩:=uc h
 obtain⟨v,_,hv⟩:=D 0 0 (by simp [hn])
 obtain⟨_,c,E,fr,h3,h4⟩:=BB hv
 refine⟨c,E,fr,by simpa [Addr.add] using h3,?_⟩
 apply Ie
 intro i
 have hl:cs.length=n:=by simpa using A
 by_cases hi:i<n
 ·obtain⟨v,h5,h6⟩:=D i i (by simp [hi])
  obtain⟨_,c',E',fr',h7,h8⟩:=BB h6
  rw [gK]at h7 h8
  have h7' :W.heap[b]? =some (.cells c' E' fr'):=h7
  have h3' :W.heap[b]? =some (.cells c E fr):=by simpa [Addr.add] using h3
  rw [h3']at h7'
  injection h7' with h7'
  injection h7' with e1
  subst e1
  rw [h5,AR hi,vD]
  simpa using h8.symm
 ·rw [FN (by omega),FN (by simp;omega)]
def NX{q:Rp α}{len:Nat}{a:Addr}{x:DataW hb×List MemPlace}(h0' :0<q.sz)(hq:vz enc P W e q)(V:(let elemAt (i:Nat):Option (DataW hb×List MemPlace):=(W.cells? 0 (a.add (i*P.cellsOf e)) (P.cellsOf e)).bind (DataW.trod enc P W 0 (fun _=>true) true n e)
   if 0<=a.block/\len<=cap/\cap<=maxLen then
    ((List.range len).mapM elemAt).bind fun elems=>
     (if(fun _=>true) a.block then(List.range (cap-len)).mapM fun j=>elemAt (len+j)else some []).map fun rest=>
      (DataW.slice (elems.map (·.1)) (rest.map (·.1)),MemPlace.row a ((elems.length+rest.length)*P.cellsOf e)++(elems++rest).flatMap (·.2))
   else none)=some x): ∃y,(ek q).rc (I8 W) [.slice (some a) len cap] y:=by
 simp only at V
 split at V
 ·rename_i hcond
  obtain⟨_,hle,hmax⟩:=hcond
  cases hm:(List.range len).mapM (fun i=>(W.cells? 0 (a.add (i*P.cellsOf e)) (P.cellsOf e)).bind (DataW.trod enc P W 0 (fun _=>true) true n e))with
  |none=>rw [hm]at V;simp at V
  |some elems=>
   obtain⟨hm1,hm2⟩:=uc hm
   rw [hq.1]at hm2
   by_cases hl0:len=0
   ·subst hl0;exact⟨[],some a,cap,rfl,ij _,hmax,.inl rfl⟩
   have hsp0:a.spot=none:=by
    obtain⟨z,_,hz⟩:=hm2 0 0 (by rw [List.getElem?_range (by omega)])
    rw [Nat.zero_mul,GJ]at hz
    cases hcs:W.cells? 0 a q.sz with
    |none=>rw [hcs]at hz;simp at hz
    |some cs1=>
     unfold World.cells? at hcs
     rw [bD (ij _)]at hcs
     obtain⟨_,g2⟩:=uc hcs
     obtain⟨v,_,hv⟩:=g2 0 0 (by simp [h0'])
     rw [GJ]at hv
     exact(BB hv).1
   have hcell: ∀i,i<len-> ∃c E fr,a.spot=none/\W.heap[a.block]? =some (.cells c E fr)/\ ∃y,q.rc (I8 W) ((c.toList.drop (a.off+i*q.sz)).take q.sz) y:=by
    intro i hi
    obtain⟨z,_,hz⟩:=hm2 i i (by simp [hi])
    cases hcs:W.cells? 0 (a.add (i*q.sz)) q.sz with
    |none=>rw [hcs]at hz;simp at hz
    |some cs1=>
     rw [hcs]at hz
     have hsp:a.spot=none:=hsp0
     obtain⟨ab,ao,az⟩:=a
     simp only at hsp
     subst hsp
     rw [gK]at hcs
     obtain⟨c,E,fr,g1,g2⟩:=LI hcs h0'
     obtain⟨y,hy⟩:=hq.2 n cs1 z hz
     exact⟨c,E,fr,rfl,g1,y,by rw [<-g2];exact hy⟩
   obtain⟨c,E,fr,hsp,H,_⟩:=hcell 0 (by omega)
   have key: ∀m,m<=len-> ∃ys:List α,ys.length=m/\qA q (I8 W) ((c.toList.drop a.off).take (m*q.sz)) ys:=by
    intro m
    induction m with
    |zero=>intro _;exact⟨[],rfl,by simp [qA]⟩
    |succ m ih=>
     intro hm'
     obtain⟨ys,hy1,hy2⟩:=ih (by omega)
     obtain⟨c',E',fr',_,hb',y,hy⟩:=hcell m (by omega)
     rw [H]at hb'
     injection hb' with hb'
     injection hb' with e1
     subst e1
     refine⟨ys++[y],by simp [hy1],?_⟩
     have hsplit:(c.toList.drop a.off).take ((m+1)*q.sz)=(c.toList.drop a.off).take (m*q.sz)++(c.toList.drop (a.off+m*q.sz)).take q.sz:=by
      rw [xI,Nat.one_mul,List.take_add,uo]
     rw [hsplit]
     exact rZ hy2 (KH.2 hy)
   obtain⟨ys,hy1,hy2⟩:=key len (eO _)
   obtain⟨ab,ao,az⟩:=a
   simp only at hsp
   subst hsp
   exact⟨ys,some ⟨ab,ao,none⟩,cap,by rw [hy1],by omega,hmax,.inr ⟨ab,ao,c,E,fr,rfl,H,by rw [hy1];exact hy2⟩⟩
 ·cases V
def mX{q:Rp α}(h:P.underlying t=some (.slice e))(hc:P.cellsOf t=1)(h0:Nat.blt 0 q.sz=true)(hq:vz enc P W e q):vz enc P W t (ek q):=⟨hc,fun fuel cs x V=>by
 have h0' :0<q.sz:=by simpa [vL] using h0
 cases fuel with
 |zero=>simp [DataW.trod]at V
 |succ n=>
  unfold DataW.trod at V
  rw [h]at V
  split at V
  all_goals try (injections;done)
  ·exact⟨[],none,0,rfl,eO _,ij _,.inl rfl⟩
  ·rename_i e' a len cap heq
   injection heq with e1
   injection e1 with e1
   subst e1
   exact NX h0' hq V⟩
def TL(enc:TypeId×Value->hb)(P:Program)(W:World){α:Type}(off:Nat)(l:List (TypeId×Nat))(r:Rp α):Prop:=
 ∀(fuel:Nat) (cs:List Value),cs.length=off+r.sz->(∀f∈l,∃x,DataW.trod enc P W 0 (fun _=>true) true fuel f.1 ((cs.drop f.2).take (P.cellsOf f.1))=some x)-> ∃y,r.rc (I8 W) (cs.drop off) y
def kP{t:Nat}(h:vz enc P W t r):TL enc P W off [(t,off)] r:=fun fuel cs hl V=>by
 obtain⟨x,V⟩:=V _ (Ik _)
 simp only at V
 rw [h.1,nv (by simp;omega)]at V
 exact h.2 _ _ _ V
def dx{p:Rp α}{t off' :Nat}{l:List (TypeId×Nat)}(h:vz enc P W t p)(ho:off' =off+p.sz)(hr:TL enc P W off' l q):TL enc P W off ((t,off)::l) (bA p q):=fun fuel cs hl V=>by
 subst ho
 obtain⟨x,hx1⟩:=V _ (lL ..)
 simp only at hx1
 rw [h.1]at hx1
 obtain⟨y,hy⟩:=h.2 _ _ _ hx1
 obtain⟨z,hz⟩:=hr fuel cs (by rw [hl];show off+(p.sz+q.sz)=_;omega) fun f hf=>V f (ma _ hf)
 exact⟨(y,z),_,_,by rw [<-uo];exact(qU _ _).symm,hy,hz⟩
def hY{l:List (TypeId×Nat)}{p:Rp α}{f:β->α}(M:(P.underlying t).map (fun d=>match d with| .struct l=>(true,l.toList.map fun f=>(f.type,f.offset))|_=>(false,[]))=some (true,l))(hc:P.cellsOf t=p.sz)(hf: ∀y,∃x,f x=y)(hl:TL enc P W 0 l p):vz enc P W t (iM p f):=⟨hc,fun fuel cs x V=>by
 obtain⟨fs,A,D⟩: ∃fs,P.underlying t=some (.struct fs)/\fs.toList.map (fun f=>(f.type,f.offset))=l:=by
  cases hu:P.underlying t with
  |none=>rw [hu]at M;cases M
  |some d=>
   rw [hu]at M
   cases d<;>simp at M
   exact⟨_,rfl,M⟩
 cases fuel with
 |zero=>simp [DataW.trod]at V
 |succ n=>
  unfold DataW.trod at V
  rw [A]at V
  change (if cs.length=P.cellsOf t then(fs.toList.mapM fun f=>DataW.trod enc P W 0 (fun _=>true) true n f.type ((cs.drop f.offset).take (P.cellsOf f.type))).map (fun xs=>(DataW.agg (xs.map (·.1)),xs.flatMap (·.2)))else none)=some x at V
  split at V
  ·rename_i hlen
   cases hm:fs.toList.mapM (fun f=>DataW.trod enc P W 0 (fun _=>true) true n f.type ((cs.drop f.offset).take (P.cellsOf f.type)))with
   |none=>rw [hm]at V;simp at V
   |some r=>
    obtain⟨_,hm2⟩:=uc hm
    obtain⟨y,hy⟩:=hl n cs (by rw [hlen,hc];omega) (fun g hg=>by
     rw [<-D,zC]at hg
     obtain⟨f0,hf0,rfl⟩:=hg
     obtain⟨i,hi⟩:=List.getElem?_of_mem hf0
     obtain⟨z,_,hz⟩:=hm2 i f0 hi
     exact⟨z,hz⟩)
    obtain⟨x',hx'⟩:=hf y
    refine⟨x',?_⟩
    show p.rc _ cs (f x')
    rw [hx']
    simpa using hy
  ·cases V⟩
def H3{W' :World}(h:jl sR W S W' S'):Below W.heap.size W W' :=⟨h.os,h.tape,h.output,h.size,fun k hk=>h.heap k hk (fun h=>h)⟩
def ye(hl:laidOutB P=true){W W' :World}(H:Below W.heap.size W W'){sp:Nat->Bool}: ∀{ts:List TypeId} {vs:List Value} {ds:List (DataW hb)} {ps:List MemPlace},(∀t∈ts,P.readableRec t=true/\t<P.types.size)->
  DataW.TrodAll enc P W 0 (fun _=>true) true ts vs ds ps->(∀p∈ps,p.block<W.heap.size)->(∀p∈ps,sp p.block=true)->DataW.TrodAll enc P W' 0 sp true ts vs ds ps
 |[],[],[],_,_,h,_,_=>h
 |t::ts,v::vs,d::ds,_,hr,⟨p,q,A,D,e⟩,hlt,hsp=>by
  subst e
  have M:=hr t (lL ..)
  exact⟨p,q,WideElems.Trod_stays hl M.1 M.2 A (fun x V=>H.same (hlt x (Da _ V))) (fun x V=>hsp x (Da _ V)),
   ye hl H (fun t M=>hr t (ma _ M)) D (fun x V=>hlt x (L4 _ V)) (fun x V=>hsp x (L4 _ V)),rfl⟩
def QC{f:Func}{s:ChangeSpec}{apart fresh handsOn again:Bool}{W' :World}{args:Array Value}{ds gs:List (DataW hb)}{before:List MemPlace}{tb:TypeId}(hl:laidOutB P=true)(hr: ∀t∈f.params.toList,P.readableRec t=true/\t<P.types.size)(hvs:s.vars=[])(hres:f.resultTypes= #[tb])(htb:P.underlying tb=some .bool)(hW:DataW.Whole enc P f.params.toList s.vars apart W args.toList ds gs before)(hs:s.fn hb (ds++gs)={results:=[.lit (.bool true)],args:=ds})(H:Below W.heap.size W W'):
  s.post enc P f apart fresh handsOn again W args (.bool true) W' :=by
 have hW0:=hW
 have hlt:=hW.lt
 obtain⟨pa,pv,hA,hV,rfl,hz,hn⟩:=hW
 rw [hvs]at hV
 have hpv:pv=[]:=by
  cases gs with
  |nil=>exact hV
  |cons g gs=>exact hV.elim
 subst hpv
 have hlt' : ∀p∈pa,p.block<W.heap.size:=fun p hp=>hlt p (by simpa using hp)
 have hargs: ∀sp:Nat->Bool,(∀p∈pa,sp p.block=true)->DataW.TrodAll enc P W' 0 sp true f.params.toList args.toList ds pa:=fun sp hsp=>ye hl H hr hA hlt' hsp
 have hresT: ∀(b:Nat) (sp:Nat->Bool) (hd:Bool),DataW.TrodAll enc P W' b sp hd f.resultTypes.toList ((Value.bool true).resultList f.resultTypes.size) [.lit (.bool true)] []:=fun b sp hd=>by
  rw [hres]
  exact⟨[],[],⟨1,by simp [DataW.trod,htb,Value.cells]⟩,rfl,rfl⟩
 have hvT: ∀sp:Nat->Bool,DataW.TrodVars enc P W' sp s.vars (s.fn hb (ds++gs)).vars []:=fun sp=>by
  rw [hvs,hs];rfl
 have hargs' : ∀sp:Nat->Bool,(∀p∈pa,sp p.block=true)->DataW.TrodAll enc P W' 0 sp true f.params.toList args.toList (s.fn hb (ds++gs)).args pa:=fun sp hsp=>by rw [hs];exact hargs sp hsp
 have hres' : ∀(b:Nat) (sp:Nat->Bool) (hd:Bool),DataW.TrodAll enc P W' b sp hd f.resultTypes.toList ((Value.bool true).resultList f.resultTypes.size) (s.fn hb (ds++gs)).results []:=fun b sp hd=>by rw [hs];exact hresT b sp hd
 have hold: ∀p∈pa,(fun b=>decide (b<W.heap.size)) p.block=true:=fun p hp=>by simpa using hlt' p hp
 refine⟨ds,gs,pa++[],[],pa,[],hW0,hres' _ _ _,hargs' _ hold,hvT _,World.keptBut_mono (fun p hp=>⟨hp,?_⟩) (H.frame _),fun _=>?_⟩
 ·right;simpa using hp
 ·refine⟨?_,_,_,([]++pa)++[],⟨[]++pa,[],trodAll_append (hargs' _ (fun _ _=>rfl)) (hres' _ _ _),hvT _,rfl,?_,?_⟩,?_⟩
  ·intro j t r A D
   rw [hres]at A D
   cases j with
   |zero=>
    simp [Value.resultList]at A D
    subst A D
    simp [Value.okWide,htb,Cell.okWide,Cell.ok]
   |succ j=>simp at A
  ·intro b off hp
   have hp' :MemPlace.cell b off∈pa:=by simpa using hp
   have:=hlt' _ hp'
   rw [H.frozen (p:=⟨b,off,none⟩) this]
   exact hz b off (by simpa using hp')
  ·intro ha
   have:=hn ha
   simpa using this
  ·intro p hp _
   simpa using hp
end

section
def wn{α:Type}(r:Rp α)(ok:α->Prop):Rp α where
 sz:=r.sz
 agg:=r.agg
 rc:=fun S cs x=>r.rc S cs x/\ok x
 mono:=fun h k=>⟨r.mono h k.1,k.2⟩
 len:=fun k=>r.len k.1
 one:=fun k=>r.one k.1
 sc:=r.sc
def CE(k:IntKind)(n:Int):Prop:=k.min<=n/\n<=k.max
def CY(s:bZ):Prop:=s.length<=maxLen
def RS{α:Type}(ok:α->Prop)(xs:List α):Prop:=xs.length<=maxLen/\ ∀x∈xs,ok x
def RR{α:Type}(_:α):Prop:=True
def Do(h:P.underlying t=some (.int k))(hc:P.cellsOf t=1):vz enc P W t (wn (rI k) (CE k)):=⟨hc,fun fuel cs x V=>by
 cases fuel with
 |zero=>simp [DataW.trod]at V
 |succ n=>
  unfold DataW.trod at V
  rw [h]at V
  split at V
  all_goals try (injections;done)
  ·rename_i k1 k2 m heq
   injection heq with e
   injection e with e
   subst e
   split at V
   ·rename_i D
    obtain⟨rfl,h3⟩:=D
    simp only [Lit.wf,gU,li]at h3
    exact⟨m,rfl,h3⟩
   ·cases V⟩
def PM(h:P.underlying t=some .string)(hc:P.cellsOf t=1):vz enc P W t (wn rS CY):=⟨hc,fun fuel cs x V=>by
 cases fuel with
 |zero=>simp [DataW.trod]at V
 |succ n=>
  unfold DataW.trod at V
  rw [h]at V
  split at V
  all_goals try (injections;done)
  ·rename_i s heq
   split at V
   ·rename_i D;exact⟨s.data.toList,rfl,(show s.data.toList.length<=maxLen from(show s.size=s.data.toList.length from rfl)▸D)⟩
   ·cases V⟩
def NY(h:P.underlying t=some .bool)(hc:P.cellsOf t=1):vz enc P W t (wn rB RR):=
 ⟨hc,fun fuel cs x V=>by obtain⟨y,hy⟩:=(PN (enc:=enc) (W:=W) h hc).2 fuel cs x V;exact⟨y,hy,trivial⟩⟩
def E2{α:Type}(r' r:Rp α)(ok:α->Prop):Prop:=r'.sz=r.sz/\r'.agg=r.agg/\ ∀S cs x,r'.rc S cs x->r.rc S cs x/\ok x
def i8:E2 (wn r ok) r ok:=⟨rfl,rfl,fun _ _ _ h=>h⟩
def Mp{α:Type}{r' r:Rp α}{ok:α->Prop}(h:E2 r' r ok){S:SH}: ∀{xs:List α} {cs:List Value},qA r' S cs xs->qA r S cs xs/\ ∀x∈xs,ok x
 |[],_,k=>⟨k,fun x V=>by cases V⟩
 |x::xs,_,⟨a,b,e,A,D⟩=>by
  obtain⟨g1,g2⟩:=h.2.2 _ _ _ A
  obtain⟨g3,g4⟩:=Mp h D
  exact⟨⟨a,b,e,g1,g3⟩,fun y hy=>by
   rcases eW.1 hy with rfl|hy
   ·exact g2
   ·exact g4 y hy⟩
def uz{r' :Rp α}(h:E2 r' r ok):E2 (ek r') (ek r) (RS ok):=⟨rfl,rfl,fun S cs xs ⟨a,cap,e,A,D,h3⟩=>by
 rcases h3 with h3|⟨b,off,c,E,fr,e1,e2,e3⟩
 ·exact⟨⟨a,cap,e,A,D,.inl h3⟩,by omega,fun x V=>by rw [h3]at V;cases V⟩
 ·rw [h.1]at e3
  obtain⟨g1,g2⟩:=Mp h e3
  exact⟨⟨a,cap,e,A,D,.inr ⟨b,off,c,E,fr,e1,e2,g1⟩⟩,by omega,g2⟩⟩
def ec{p' p:Rp α}{q' :Rp β}{f:α->Prop}{g:β->Prop}(h:E2 p' p f)(k:E2 q' q g):E2 (bA p' q') (bA p q) (fun x=>f x.1/\g x.2):=
 ⟨by show p'.sz+q'.sz=p.sz+q.sz;rw [h.1,k.1],rfl,fun S cs x ⟨a,b,e,A,D⟩=>⟨⟨a,b,e,(h.2.2 _ _ _ A).1,(k.2.2 _ _ _ D).1⟩,(h.2.2 _ _ _ A).2,(k.2.2 _ _ _ D).2⟩⟩
def mZ{p' p:Rp α}{f:β->α}(h:E2 p' p ok):E2 (iM p' f) (iM p f) (fun x=>ok (f x)):=
 ⟨h.1,rfl,fun S cs x k=>h.2.2 _ _ _ k⟩
def H5{r' :Rp α}(h:vz enc P W t r')(hr:E2 r' r ok)(hag:r.agg=true){d:DataW hb}{ps:List MemPlace}(hv:DataW.Trod enc P W 0 (fun _=>true) true t v d ps)(hc:v= .agg v.cells): ∃y,(K r y).p (I8 W) v/\ok y:=by
 obtain⟨fuel,V⟩:=hv
 obtain⟨y,hy⟩:=h.2 _ _ _ V
 obtain⟨g1,g2⟩:=hr.2.2 _ _ _ hy
 exact⟨y,⟨_,by unfold Rp.val;rw [hag,bD rfl];exact hc,g1⟩,g2⟩
def u6{l:Array Field}(M:P.underlying t=some (.struct l))(hv:Value.okWide P W .any base t v):v= .agg v.cells:=by
 unfold Value.okWide at hv
 rw [M]at hv
 obtain⟨cs,e,_⟩:=hv
 rw [e]
 rfl
end

variable{Ds:List (DataW Unit)}
section
variable{held:Bool}
def Un(P:Program)(W:World)(held:Bool)(t:TypeId)(h2:DataW Unit)(cells:List Value):Prop:=
 P.cellsOf t=cells.length/\ ∀fuel cs x,DataW.trod (fun _=>()) P W 0 (fun _=>true) held fuel t cs=some x->x.1=h2->cs=cells
def Ha{n:Int}(h:P.underlying t=some (.int k))(hc:P.cellsOf t=1):Un P W held t (.lit (.int k n)) [.int k n]:=⟨hc,fun fuel cs x V hD=>by
 obtain⟨m,A,D,_⟩:=DataW.trod_int h V
 subst D
 simp only [DataW.lit.injEq,Lit.int.injEq,true_and]at hD
 rw [A,hD]⟩
def ev{s:List UInt8}(h:P.underlying t=some .string)(hc:P.cellsOf t=1):Un P W held t (.lit (.string s)) [.string ⟨s.toArray⟩]:=⟨hc,fun fuel cs x V hD=>by
 obtain⟨m,A,D,_⟩:=DataW.trod_string h V
 subst D
 simp only [DataW.lit.injEq,Lit.string.injEq]at hD
 subst hD
 rw [A]⟩
def FC(P:Program)(W:World)(held:Bool)(off:Nat)(l:List (TypeId×Nat))(Ds:List (DataW Unit))(cells:List Value):Prop:=
 ∀(n:Nat) (cs:List Value),cs.length=off+cells.length->(∀(i:Nat) f,l[i]? =some f-> ∃x,DataW.trod (fun _=>()) P W 0 (fun _=>true) held n f.1 ((cs.drop f.2).take (P.cellsOf f.1))=some x/\Ds[i]? =some x.1)->cs.drop off=cells
def EE:FC P W held off [] [] []:=fun n cs hl _=>oE (by simp at hl;omega)
def dD{off' :Nat}{l:List (TypeId×Nat)}{h2:DataW Unit}{c:List Value}(h:Un P W held t h2 c)(ho:off' =off+c.length)(k:FC P W held off' l Ds cells):FC P W held off ((t,off)::l) (h2::Ds) (c++cells):=fun n cs hl V=>by
 obtain⟨x,A,D⟩:=V 0 (t,off) rfl
 simp only [FO,C9]at D
 have h3:=h.2 n _ x A D.symm
 have h4:=k n cs (by rw [hl,ho,mV];omega) fun i f hf=>by simpa using V (i+1) f (by simpa using hf)
 have e:cs.drop off=(cs.drop off).take (P.cellsOf t)++cs.drop off' :=by
  rw [ho,<-h.1,<-uo,qU]
 rw [e,h4]
 exact congrArg (· ++cells) h3
def yO{l:List (TypeId×Nat)}(M:(P.underlying t).map (fun d=>match d with| .struct l=>(true,l.toList.map fun f=>(f.type,f.offset))|_=>(false,[]))=some (true,l))(hc:P.cellsOf t=cells.length)(hf:FC P W held 0 l Ds cells):Un P W held t (.agg Ds) cells:=⟨hc,fun fuel cs x V hD=>by
 obtain⟨fs,A,D⟩: ∃fs,P.underlying t=some (.struct fs)/\fs.toList.map (fun f=>(f.type,f.offset))=l:=by
  cases hu:P.underlying t with
  |none=>rw [hu]at M;cases M
  |some d=>
   rw [hu]at M
   cases d<;>simp at M
   exact⟨_,rfl,M⟩
 obtain⟨xs,n,rfl,h3,h4,h5,h6⟩:=DataW.trod_struct A V
 rw [h3]at hD
 simp only [DataW.agg.injEq]at hD
 have:=hf n cs (by rw [h4,hc];omega) fun i f hi=>by
  rw [<-D,FK]at hi
  obtain⟨f0,hf0,rfl⟩:=L7.1 hi
  have h7:=h6 i f0 (by simpa using hf0)
  have hlt:i<xs.length:=by
   have:=(qB.1 hf0).1
   rw [h5];simpa using this
  rw [jA hlt]at h7
  exact⟨xs[i],h7,by rw [<-hD];simp [hlt]⟩
 rwa [pA]at this⟩
def Mi{m:Nat}(M:P.underlying t=some (.array m e))(hc:P.cellsOf t=cells.length)(hf:FC P W held 0 ((List.range m).map fun i=>(e,i*P.cellsOf e)) Ds cells):Un P W held t (.agg Ds) cells:=⟨hc,fun fuel cs x V hD=>by
 obtain⟨xs,n,rfl,h3,h4,h5,h6⟩:=DataW.trod_array M V
 rw [h3]at hD
 simp only [DataW.agg.injEq]at hD
 have:=hf n cs (by rw [h4,hc];omega) fun i f hi=>by
  rw [FK]at hi
  obtain⟨j,hj,rfl⟩:=L7.1 hi
  obtain⟨hlt,hj2⟩:=qB.1 hj
  simp at hlt hj2
  subst hj2
  have h7:=h6 i hlt
  have hlt' :i<xs.length:=by rw [h5];exact hlt
  rw [jA hlt']at h7
  exact⟨xs[i],h7,by rw [<-hD];simp [hlt']⟩
 rwa [pA]at this⟩
def Ja: ∀{L:List (String×DataW Unit)} {ps:List MemPlace},DataW.LaidVars P W L ps-> ∀n d,(n,d)∈L-> ∃g t cs fuel p,P.globalNamed n=some g/\(P.globals[g]?).map (·.type)=some t/\W.var? P n=some cs/\DataW.trod (fun _=>()) P W 0 (fun _=>true) false fuel t cs.toList=some (d,p)
 |(_,_)::_,_,⟨g,t,cs,fuel,p,_,A,D,h3,h4,_,_⟩,_,_,.head _=>⟨g,t,cs,fuel,p,A,D,h3,h4⟩
 |(_,_)::_,_,⟨_,_,_,_,_,_,_,_,_,_,h,_⟩,n,d,.tail _ hm=>Ja h n d hm
def Al{L:List (String×DataW Unit)}(h:laidMet P L W){n:String}{d:DataW Unit}(hm:(n,d)∈L){g:Nat}(hg:P.globalNamed n=some g)(M:(P.globals[g]?).map (·.type)=some t)(hc:Un P W false t d cells):
  ∃c T fr,W.heap[g]? =some (.cells c T fr)/\c.toList.take cells.length=cells:=by
 obtain⟨ps,hL,_,_⟩:=h
 obtain⟨g',t',cs,fuel,p,A,D,h3,h4⟩:=Ja hL n d hm
 obtain rfl:=oD (hg.symm.trans A)
 obtain rfl:=oD (M.symm.trans D)
 have h5:=hc.2 fuel _ _ h4 rfl
 unfold World.var? at h3
 rw [hg]at h3
 simp only [aP]at h3
 split at h3
 ·rename_i c T fr H
  cases h3
  exact⟨_,_,_,H,by rw [h5,xY]⟩
 ·cases h3
end

def IU{α:Type}{r:Rp α}(hfree: ∀{S S' :SH} {cs:List Value} {x:α},r.rc S cs x->r.rc S' cs x){S S' :SH}: ∀{xs:List α} {cs:List Value},qA r S cs xs->qA r S' cs xs
 |[],_,h=>h
 |_::_,_,h=>by
  obtain⟨ds,es,A,D,h3⟩:=h
  exact⟨ds,es,A,hfree D,IU hfree h3⟩
def Yn{l:Option Nat}(h:xU mm r T l cap xs w S)(hs:kp w S): ∃S1,pm S S1/\kp w S1/\(K (ek r) xs).p S1 (Y l cap xs.length):=by
 cases mm with
 |true=>exact⟨S,SH.le_refl _,hs,kF h⟩
 |false=>
  obtain⟨cells,A,D,h3⟩:=h
  cases l with
  |none=>exact⟨S,SH.le_refl _,hs,kF (T:=T) ⟨cells,A,D,fun b H=>(by cases H)⟩⟩
  |some b=>
   obtain⟨cur,g1,g2,g3,g4,g5⟩:=A
   have hoo:Fh (.cells cells.toArray T (0,0)) (.cells cur T (0,0)):=by
    refine⟨cur.toList.drop (xs.length*r.sz),?_⟩
    congr 1
    apply Array.ext'
    rw [<-g5,qU]
   have hn:S b=none:=h3 b rfl
   have hle:pm S (S.set b (.cells cells.toArray T (0,0))):=xB fun q hq=>(by rw [hn]at hq;cases hq)
   have hsat:kp w (S.set b (.cells cells.toArray T (0,0))):=hs.set g1 hoo fun q hq=>by rw [hn]at hq;cases hq
   refine⟨_,hle,hsat,kF (T:=T) ⟨cells,⟨cur,g1,g2,g3,g4,g5⟩,qp hle D,fun b' hb' =>?_⟩⟩
   have hb2:b=b' :=oD hb'
   subst hb2
   exact mS _ _ _
section
variable{ty:TypeId}
end

section
variable{ty:TypeId}
def hH(hag:r.agg=true)(hr: ∀S,r.rc S [v] y)(h:aE N G x (Q (.agg #[v]))):aE N G x (K r y):=fun S a hf=>⟨[v],by rw [Rp.val,bD hag];exact h S a hf,hr S⟩
end

section
variable{N:Nat}{w0:World}{S0:SH}{fn:Func}{ι:Type}{t:ι->Ty}{O2:ι->List OE}
end

section
variable{ty:TypeId}
end
section
variable{ty:TypeId}
end

def I{α:Sort _}{a:α}:a=a:=rfl
def J:True:=trivial
abbrev ba(x:Int):Ty:=K (rI .i64) x
abbrev ml(x:Bool):Ty:=K rB x
abbrev ni{α:Type}(l:List α):Ty:=K (rI .i64) (l.length:Int)
abbrev VV:Rp (List Int):=ek (rI .i64)
abbrev yC(l:List Int):Ty:=K (ek (rI .i64)) l
abbrev iL{α:Type}(r:Rp α)(l:List α):Ty:=K (ek r) l
abbrev ve{α:Type}(l:Option Nat)(c:Nat)(xs:List α):Ty:=Q (Y l c xs.length)
def bI: ∀{G' G:lh},G'.map (fun p=>look G p.1)=G'.map (fun p=>some p.2)->N4 G' G
 |[],_,_=>trivial
 |(_,_)::_,_,h=>⟨(zI h).1,bI (zI h).2⟩

section
variable{ty:TypeId}
def jz{x:Nat}{t:Ty}(h:look G x=some t):bP E O G ⟨dst,.move (.tmp x),ty,pos,after,g⟩ t:=bU (M h)
def FQ{x:Nat}{t:Ty}(h:look G x=some t):bP E O G ⟨dst,.assign (.tmp x),ty,pos,after,g⟩ t:=cy (M h)
def zai{n:Int}:bP E O G ⟨dst,.assign (.const (.int k n)),ty,pos,after,g⟩ (K (rI k) n):=cy hI
def zab{b:Bool}:bP E O G ⟨dst,.assign (.const (.bool b)),ty,pos,after,g⟩ (K rB b):=cy hB
def ur{x:α}{p:Nat}(ti:TI E.P U sz bytes agg z)(hp:look G p=some (bn r x))(hs:(r.sz,r.agg)=(sz,agg)):
  bP E O G ⟨dst,.load U (.tmp p),ty,pos,after,g⟩ (K r x):=nO ti (vR hs).1 (vR hs).2 (M hp)
def yb{get:α->β}{x:α}{i:Nat}{p:Nat}(hf:a8 E.P T i=some (off,sz))(hq:iZ r off q get)(hp:look G p=some (bn r x))(h0:(!(Nat.beq sz 0)&&Nat.ble (off+q.sz) r.sz)=true):bP E O G ⟨dst,.fieldAddr T (.tmp p) i,ty,pos,after,g⟩ (bn q (get x)):=
 lx hf (by cases h:Nat.beq sz 0<;>simp [h]at h0 ⊢) hq (by revert h0;cases Nat.ble (off+q.sz) r.sz<;>simp) (M hp)
def zln{x:Nat}(hu:E.P.underlying t=some (.slice e))(V:look G x=some (K (ek r) xs)):
  bP E O G ⟨dst,.call ⟨.builtin .len,#[.tmp x],#[t]⟩,ty,pos,after,g⟩ (K (rI .i64) (xs.length:Int)):=mE hu (M V)
def yK{x:Nat}{i:Nat}{t:Ty}(hi:ts[i]? =some t)(V:look G x=some (tT ts)):bP E O G ⟨dst,.extract (.tmp x) i,ty,pos,after,g⟩ t:=D9 hi (M V)
def zbx{v:α}{x:Nat}(V:look G x=some (K r v)):bP E O G ⟨dst,.box T (.tmp x),ty,pos,after,g⟩ (bn r v):=KS (M V)
def zpa{c x:Nat}{b q:Bool}(hc:look G c=some (K rB b))(V:look G x=some (nV b (K rB q))):bP E O G ⟨dst,.pick (.tmp c) (.tmp x) (.const (.bool false)),ty,pos,after,g⟩ (K rB (b&&q)):=lv (M hc) (fun H=>db V H)
def zpo{c x:Nat}{b q:Bool}(hc:look G c=some (K rB b))(V:look G x=some (nV (!b) (K rB q))):bP E O G ⟨dst,.pick (.tmp c) (.const (.bool true)) (.tmp x),ty,pos,after,g⟩ (K rB (b||q)):=Oy (M hc) (fun H=>db V (vG H))
variable{xt yt:TypeId}{x y:Nat}{m n:Int}
def zlt(V:look G x=some (K (rI k) m))(hy:look G y=some (K (rI k) n)):bP E O G ⟨dst,.binOp .lss xt (.tmp x) (.tmp y) yt,ty,pos,after,g⟩ (K rB (decide (m<n))):=jn (M V) (M hy)
def zei{j:IntKind}(V:look G x=some (K (rI j) m)):bP E O G ⟨dst,.binOp .eql xt (.tmp x) (.const (.int j n)) yt,ty,pos,after,g⟩ (K rB (m==n)):=qe (M V) hI
def zni{j:IntKind}(V:look G x=some (K (rI j) m)):bP E O G ⟨dst,.binOp .neq xt (.tmp x) (.const (.int j n)) yt,ty,pos,after,g⟩ (K rB (m !=n)):=lw (M V) hI
def Yf{y:α}{x ix:Nat}{k:IntKind}{i:Int}(hu:E.P.underlying t=some (.slice e))(ti:TI E.P e sz bytes agg z)(hsz:r.sz=sz)(V:look G x=some (K (ek r) xs))(hi:look G ix=some (K (rI k) i))(hy:fg xs i=some y):
  bP E O G ⟨dst,.indexAddr t (.tmp x) (.tmp ix),ty,pos,after,g⟩ (bn r y):=iq hu ti hsz (M V) (M hi) hy
def X7{i:Nat}{x:Nat}{xt yt:TypeId}(hi:i<9223372036854775807)(V:look G x=some (K (rI .i64) (i:Int))):
  bP E O G ⟨dst,.binOp .add xt (.tmp x) (.const (.int .i64 1)) yt,ty,pos,after,g⟩ (K (rI .i64) ((i+1:Nat):Int)):=uG hi (M V) hI
def mW{i o:Nat}{p:Nat}(n:Nat)(hf:a8 E.P T i=some (off,sz))(h0:Nat.beq sz 0=false)(hp:look G p=some (Q (ai b o)))(he:o+off=n):bP E O G ⟨dst,.fieldAddr T (.tmp p) i,ty,pos,after,g⟩ (Q (ai b n)):=tI (n:=n) hf h0 (M hp) he
end
section
variable{l:List Oper}
def zo{ty:TypeId}{t:Ty}(hd:Nat.blt d E.N.n=true)(h:bP E O G ⟨some d,op,ty,pos,after,none⟩ t)(k:RG E ops tV l O ((d,t)::G)):
  RG E ops tV (⟨some d,op,ty,pos,after,none⟩::l) O G:=GK h hd k
def uI(n d:Nat)(r:Option Ty):Option Ty:=if Nat.blt d n then r else none
def cY{r:Option Ty}{t:Ty}(h:uI n d r=some t):Nat.blt d n=true/\r=some t:=by
 unfold uI at h;split at h
 case isTrue A=>exact⟨A,h⟩
 case isFalse=>cases h
def bE{x:Nat}{ty:TypeId}{t:Ty}(h:uI E.N.n d (look G x)=some t)(k:RG E ops tV l O ((d,t)::G)):
  RG E ops tV (⟨some d,.move (.tmp x),ty,pos,after,none⟩::l) O G:=GK (bU (M (cY h).2)) (cY h).1 k
def lj{x:Nat}{ty:TypeId}{t:Ty}(h:uI E.N.n d (look G x)=some t)(k:RG E ops tV l O ((d,t)::G)):
  RG E ops tV (⟨some d,.assign (.tmp x),ty,pos,after,none⟩::l) O G:=GK (cy (M (cY h).2)) (cY h).1 k
def ci{y:Code}(h:CG E tV y O G):RG E ops (Exit.then (y.wpIn (fw E.r) 0 E.P tV) tV) [] O G:=bN (aJ h)
def bB{id:Nat}{l:List Oper}{y:Code}(h:RG E l.toArray (Exit.then (y.wpIn (fw E.r) 0 E.P tV) tV) l O G):CG E tV (.seq (.region id l.toArray false) y) O G:=aM (bg h)
def tY{β:Type _}{X aa:Option β}{r:β}{c:Nat}{x y:Code}{b:Bool}(h:(if b=true then X else aa)=some r)(H:look G c=some (K rB b))(V:X=some r->CG E tV x O G)(hy:aa=some r->CG E tV y O G):CG E tV (.cond (.tmp c) x y) O G:=
 C6 (M H) (fun hc=>V (ct h hc)) (fun hc=>hy (cf h hc))
def nw{y:Code}(h:CG E tV y O G):CG E (Exit.then (y.wpIn (fw E.r) 0 E.P tV) tV) .skip O G:=co (aJ h)
def zgt{j gs:Nat}{b:Bool}{ty:TypeId}{t:Ty}(hj:(ops[j]?).bind (·.dst)=some gs)(hg:uI E.N.n gs (uI E.N.n d (look G gs))=some (K rB b))(h:b=true->bP E O G ⟨some d,op,ty,pos,after,some (j,true)⟩ t)(k:RG E ops tV l O ((d,nV b t)::G)):RG E ops tV (⟨some d,op,ty,pos,after,some (j,true)⟩::l) O G:=TG hj (cY hg).1 (cY (cY hg).2).2 (cY (cY hg).2).1 h k
def zgf{j gs:Nat}{b:Bool}{ty:TypeId}{t:Ty}(hj:(ops[j]?).bind (·.dst)=some gs)(hg:uI E.N.n gs (uI E.N.n d (look G gs))=some (K rB b))(h:(!b)=true->bP E O G ⟨some d,op,ty,pos,after,some (j,false)⟩ t)(k:RG E ops tV l O ((d,nV (!b) t)::G)):RG E ops tV (⟨some d,op,ty,pos,after,some (j,false)⟩::l) O G:=TH hj (cY hg).1 (cY (cY hg).2).2 (cY (cY hg).2).1 h k
end
def cI{α:Type _}{β:Type _}{x:Option α}{k:α->Option β}{r:β}{P:Prop}(h:x.bind k=some r)(f: ∀y,x=some y->k y=some r->P):P:=by
 obtain⟨y,A,D⟩:=bs h;exact f y A D
variable{u1:Ty}
section
variable{l:List Oper}{i:Nat}{t:Ty}
def H6{a b c:Bool}(h:(a&&b&&c)=true):a=true/\b=true/\c=true:=by revert h;cases a<;>cases b<;>cases c<;>simp
def Yc{x:Option α}(h:x.isNone=true):x=none:=by cases x;rfl;cases h
def zd0(h:ts[i]? =some t)(k:bP E O [] o t)(H:(d6 i o&&o.guard.isNone)=true:=by exact rfl): ∃(needs:List Nd) (t:Ty),ts[i]? =some t/\qS G ts needs/\(needs.all (nW l o i))=true/\d6 i o=true/\be E O l.toArray (iR needs) o t:=
 ⟨[],t,h,trivial,rfl,(BR.1 H).1,aC (Yc (BR.1 H).2) k⟩
def xQ(a:Nat){u:Ty}(h:ts[i]? =some t)(hu:AK G ts ⟨a,u,none⟩)(k:bP E O [(a,u)] o t)(H:([(⟨a,u,none⟩:Nd)].all (nW l o i)&&d6 i o&&o.guard.isNone)=true:=by exact rfl): ∃(needs:List Nd) (t:Ty),ts[i]? =some t/\qS G ts needs/\(needs.all (nW l o i))=true/\d6 i o=true/\be E O l.toArray (iR needs) o t:=
 ⟨[(⟨a,u,none⟩:Nd)],t,h,⟨hu,trivial⟩,(H6 H).1,(H6 H).2.1,aC (Yc (H6 H).2.2) k⟩
def ka(a:Nat)(j:Nat){u:Ty}(h:ts[i]? =some t)(hu:AK G ts ⟨a,u,(some j)⟩)(k:bP E O [(a,u)] o t)(H:([(⟨a,u,(some j)⟩:Nd)].all (nW l o i)&&d6 i o&&o.guard.isNone)=true:=by exact rfl): ∃(needs:List Nd) (t:Ty),ts[i]? =some t/\qS G ts needs/\(needs.all (nW l o i))=true/\d6 i o=true/\be E O l.toArray (iR needs) o t:=
 ⟨[(⟨a,u,(some j)⟩:Nd)],t,h,⟨hu,trivial⟩,(H6 H).1,(H6 H).2.1,aC (Yc (H6 H).2.2) k⟩
def NQ(a:Nat)(a1:Nat)(j1:Nat){u:Ty}(h:ts[i]? =some t)(hu:AK G ts ⟨a,u,none⟩)(hu1:AK G ts ⟨a1,u1,(some j1)⟩)(k:be E O l.toArray [(a,u),(a1,u1)] o t)(H:([(⟨a,u,none⟩:Nd),⟨a1,u1,(some j1)⟩].all (nW l o i)&&d6 i o)=true:=by exact rfl): ∃(needs:List Nd) (t:Ty),ts[i]? =some t/\qS G ts needs/\(needs.all (nW l o i))=true/\d6 i o=true/\be E O l.toArray (iR needs) o t:=
 ⟨[(⟨a,u,none⟩:Nd),⟨a1,u1,(some j1)⟩],t,h,⟨hu,hu1,trivial⟩,(BR.1 H).1,(BR.1 H).2,k⟩
def oF(a:Nat)(j:Nat)(a1:Nat)(j1:Nat){u:Ty}(h:ts[i]? =some t)(hu:AK G ts ⟨a,u,(some j)⟩)(hu1:AK G ts ⟨a1,u1,(some j1)⟩)(k:bP E O [(a,u),(a1,u1)] o t)(H:([(⟨a,u,(some j)⟩:Nd),⟨a1,u1,(some j1)⟩].all (nW l o i)&&d6 i o&&o.guard.isNone)=true:=by exact rfl): ∃(needs:List Nd) (t:Ty),ts[i]? =some t/\qS G ts needs/\(needs.all (nW l o i))=true/\d6 i o=true/\be E O l.toArray (iR needs) o t:=
 ⟨[(⟨a,u,(some j)⟩:Nd),⟨a1,u1,(some j1)⟩],t,h,⟨hu,hu1,trivial⟩,(H6 H).1,(H6 H).2.1,aC (Yc (H6 H).2.2) k⟩
def Cw(a:Nat)(j:Nat)(a1:Nat)(j1:Nat){u:Ty}(h:ts[i]? =some t)(hu:AK G ts ⟨a,u,(some j)⟩)(hu1:AK G ts ⟨a1,u1,(some j1)⟩)(k:be E O l.toArray [(a,u),(a1,u1)] o t)(H:([(⟨a,u,(some j)⟩:Nd),⟨a1,u1,(some j1)⟩].all (nW l o i)&&d6 i o)=true:=by exact rfl): ∃(needs:List Nd) (t:Ty),ts[i]? =some t/\qS G ts needs/\(needs.all (nW l o i))=true/\d6 i o=true/\be E O l.toArray (iR needs) o t:=
 ⟨[(⟨a,u,(some j)⟩:Nd),⟨a1,u1,(some j1)⟩],t,h,⟨hu,hu1,trivial⟩,(BR.1 H).1,(BR.1 H).2,k⟩
def TN(a:Nat)(j:Nat)(a1:Nat)(j1:Nat)(a2:Nat)(j2:Nat){u:Ty}{u2:Ty}(h:ts[i]? =some t)(hu:AK G ts ⟨a,u,(some j)⟩)(hu1:AK G ts ⟨a1,u1,(some j1)⟩)(hu2:AK G ts ⟨a2,u2,(some j2)⟩)(k:be E O l.toArray [(a,u),(a1,u1),(a2,u2)] o t)(H:([(⟨a,u,(some j)⟩:Nd),⟨a1,u1,(some j1)⟩,⟨a2,u2,(some j2)⟩].all (nW l o i)&&d6 i o)=true:=by exact rfl): ∃(needs:List Nd) (t:Ty),ts[i]? =some t/\qS G ts needs/\(needs.all (nW l o i))=true/\d6 i o=true/\be E O l.toArray (iR needs) o t:=
 ⟨[(⟨a,u,(some j)⟩:Nd),⟨a1,u1,(some j1)⟩,⟨a2,u2,(some j2)⟩],t,h,⟨hu,hu1,hu2,trivial⟩,(BR.1 H).1,(BR.1 H).2,k⟩
end
end Go.Proofs.YthbdkceckjihgaaGreatDoor

