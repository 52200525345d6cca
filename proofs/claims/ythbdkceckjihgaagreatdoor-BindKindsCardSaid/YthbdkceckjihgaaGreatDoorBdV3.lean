/- cm of this claim: W33, W34, W35, W36, W37, W38, W39, W40, W48, W50, W51, W41, W42, W43, W21, W27, W45, W46, W47, W52, W53, W56, W57. -/
import Derived.Test.YthbdkceckjihgaaGreatDoorBdV2
import Derived.Lib.Bytealg
import Derived.Maps.Range
import Derived.Laws.IdiomRangeMap
import Derived.Test.YthbdkceckjihgaaGreatDoorBdV1
import Derived.Laws.BytesString
import Derived.Below
import Derived.ProofKit
import Derived.OpenShut
import Derived.LaidMore
import Derived.Laws.Externs
set_option linter.all false
namespace Go.Proofs.YthbdkceckjihgaaGreatDoor
open Go

def uH(N:Nat):List Nat->List Oper->Bool
 |_,[]=>true
 |seen,o::rest=>match o.dst with
  |some d=>Nat.blt d N&& !(seen.any (Nat.beq d))&&uH N (d::seen) rest
  |none=>uH N seen rest
variable{N:Fr}{β:Type}{d:Nat}{j:Int}{o:Oper}{p:Operand}{q:Rp β}
def AF{N:Nat}(l:List Oper): ∀(seen:List Nat),uH N seen l=true->
  (∀o:Oper,o∈l-> ∀d,o.dst=some d->d<N/\d∉seen)/\ ∀(i j:Nat) (o p:Oper) (d:Nat),l[i]? =some o->l[j]? =some p->o.dst=some d->p.dst=some d->i=j:=by
 induction l with
 |nil=>exact fun _ _=>⟨fun _ h=>(by cases h),fun _ _ _ _ _ h=>(by simp at h)⟩
 |cons o l ih=>
  intro seen h
  unfold uH at h
  cases hd:o.dst with
  |none=>
   rw [hd]at h
   obtain⟨A,V⟩:=ih seen h
   refine⟨fun q hq d hqd=>?_,fun i j p q d hi hj hp hq=>?_⟩
   ·rcases lK.1 hq with rfl|hq
    ·rw [hd]at hqd;cases hqd
    ·exact A q hq d hqd
   ·cases i with
    |zero=>simp at hi;subst hi;rw [hd]at hp;cases hp
    |succ i=>
     cases j with
     |zero=>simp at hj;subst hj;rw [hd]at hq;cases hq
     |succ j=>rw [V i j p q d (by simpa using hi) (by simpa using hj) hp hq]
  |some d0=>
   rw [hd]at h
   simp only [gM,ur,zj]at h
   obtain⟨⟨g1,g2⟩,g3⟩:=h
   obtain⟨A,V⟩:=ih (d0::seen) g3
   have hns:d0∉seen:=fun hm=>by
    have:seen.any (Nat.beq d0)=true:=A4.2 ⟨d0,hm,Nat.beq_refl d0⟩
    rw [this]at g2;cases g2
   refine⟨fun q hq d hqd=>?_,fun i j p q d hi hj hp hq=>?_⟩
   ·rcases lK.1 hq with rfl|hq
    ·rw [hd]at hqd;cases hqd;exact⟨g1,hns⟩
    ·obtain⟨k1,k2⟩:=A q hq d hqd
     exact⟨k1,fun hm=>k2 (lH _ hm)⟩
   ·cases i with
    |zero=>
     cases j with
     |zero=>rfl
     |succ j=>
      simp at hi;subst hi
      rw [hd]at hp;cases hp
      exact absurd (ln ..) (A q (rb (by simpa using hj)) d0 hq).2
    |succ i=>
     cases j with
     |zero=>
      simp at hj;subst hj
      rw [hd]at hq;cases hq
      exact absurd (ln ..) (A p (rb (by simpa using hi)) d0 hp).2
     |succ j=>rw [V i j p q d (by simpa using hi) (by simpa using hj) hp hq]
def HF:List Oper->List Ty->kP->kP
 |o::l,t::ts,G=>match o.dst with
  |some d=>(d,t)::HF l ts G
  |none=>HF l ts G
 |_,_,G=>G
variable{G:kP}{e:TypeId}{k:IntKind}{t:TypeId}{ts:List Ty}{u:Value}
def EP(l:List Oper): ∀(ts:List Ty) (k:Nat) (t:Ty),ts.length=l.length->look (HF l ts G) k=some t->
  (∃(j:Nat) (o:Oper),l[j]? =some o/\o.dst=some k/\ts[j]? =some t)\/(look G k=some t/\ ∀o:Oper,o∈l->o.dst≠some k):=by
 induction l with
 |nil=>
  intro ts k t hl h
  have:ts=[]:=sW (by simpa using hl)
  subst this
  exact .inr ⟨h,fun _ h=>(by cases h)⟩
 |cons o l ih=>
  intro ts k t hl h
  cases ts with
  |nil=>simp at hl
  |cons u ts=>
   unfold HF at h
   have hl' :ts.length=l.length:=by simpa using hl
   have lift:((∃(j:Nat) (p:Oper),l[j]? =some p/\p.dst=some k/\ts[j]? =some t)\/(look G k=some t/\ ∀p:Oper,p∈l->p.dst≠some k))->o.dst≠some k->
     (∃(j:Nat) (p:Oper),(o::l)[j]? =some p/\p.dst=some k/\(u::ts)[j]? =some t)\/(look G k=some t/\ ∀p:Oper,p∈o::l->p.dst≠some k):=by
    rintro(⟨j,p,A,V,h3⟩|⟨A,V⟩) hne
    ·exact .inl ⟨j+1,p,by simpa using A,V,by simpa using h3⟩
    ·exact .inr ⟨A,fun p hp=>(lK.1 hp).elim (fun e=>by subst e;exact hne) (V p)⟩
   cases hd:o.dst with
   |none=>
    rw [hd]at h
    exact lift (ih ts k t hl' h) (by rw [hd];exact fun e=>by cases e)
   |some d=>
    rw [hd]at h
    simp only at h
    unfold look at h
    by_cases H:Nat.beq d k=true
    ·rw [H]at h
     have:=nk H
     subst this
     have e:u=t:=by simpa using h
     subst e
     exact .inl ⟨0,o,rfl,hd,rfl⟩
    ·rw [zh]at H
     rw [H]at h
     refine lift (ih ts k t hl' h) ?_
     rw [hd]
     intro e
     have:d=k:=nO e
     subst this
     simp at H
abbrev TS:=List Nat×(List OI->Ty)
def TS.at(p:TS)(σ:Nat->OI):Ty:=p.2 (p.1.map σ)
def tc(t:Ty):TS:=([],fun _=>t)
def NR(Ss:List ((Nat->OI)->List OE))(c:Nat)(σ:Nat->OI):List OE:=match Ss[c]? with|some f=>f σ|none=>[]
structure NS where
 slot:Nat
 ty:(Nat->OI)->Ty
 src:Option Nat
def NS.at(n:NS)(σ:Nat->OI):Nd:=⟨n.slot,n.ty σ,n.src⟩
def Sd(G:kP)(ts:List TS)(n:NS):Prop:=
 match n.src with
 |some j=> ∀σ,(ts[j]?).map (fun p=>p.at σ)=some (n.ty σ)
 |none=> ∀σ,look G n.slot=some (n.ty σ)
def uh(G:kP)(ts:List TS):List NS->Prop
 |[]=>True
 |n::l=>Sd G ts n/\uh G ts l
variable{n:Nat}
def uh.mem{ts:List TS}: ∀{l:List NS},uh G ts l-> ∀n∈l,Sd G ts n
 |_::_,⟨h,_⟩,_,.head _=>h
 |_::_,⟨_,h⟩,_,.tail _ hm=>uh.mem h _ hm
def t8(l:List NS)(σ:Nat->OI):kP:=iG (l.map (·.at σ))
def PY(ts:List TS)(σ:Nat->OI):List Ty:=ts.map fun p=>p.at σ
def Nn(L:List Oper)(es:List Bool)(i:Nat)(p:TS):Bool:=p.1.all fun k=>(es[k]?).getD false&&(Nat.beq k i||lM L L.length i k)
def S9(L:List Oper)(es:List Bool)(i lo hi:Nat):Bool:=
 Nat.ble lo (fH es es.length)&&(List.range es.length).all fun k=> !((es[k]?).getD false)||((Nat.ble lo (fH es k)||lM L L.length i k)&&(Nat.blt (fH es k) hi||lM L L.length k i))
def DS(E:En)(G:kP)(L:List Oper)(ts:List TS)(Ss:List ((Nat->OI)->List OE))(es0:List Bool):Nat->Nat->List Oper->List Bool->Prop
 |_,_,[],_=>True
 |i,c,o::rest,false::es=>(∃(needs:List NS) (t:TS) (lo hi:Nat),ts[i]? =some t/\uh G ts needs/\(needs.all fun n=>np L o i (n.at fun _=>nQ))=true/\d8 i o=true/\Nn L es0 i t=true/\S9 L es0 i lo hi=true/\o.dst.isSome=true/\
   ∀c σ,lo<=c->c<=hi->bn E (NR Ss c σ) L.toArray (t8 needs σ) o (t.at σ))/\DS E G L ts Ss es0 (i+1) c rest es
 |i,c,o::rest,true::es=>(∃(needs:List NS) (t:TS),ts[i]? =some t/\uh G ts needs/\(needs.all fun n=>np L o i (n.at fun _=>nQ))=true/\d8 i o=true/\Nn L es0 i t=true/\
   ∀σ,ju E L.toArray (NR Ss c σ) (t8 needs σ) o (fun x=>NR Ss (c+1) (upd σ i x)) (fun x=>t.at (upd σ i x)))/\DS E G L ts Ss es0 (i+1) (c+1) rest es
 |_,_,_::_,[]=>False
variable{E:En}{L:List Oper}{Ss:List ((Nat->OI)->List OE)}{c:Code}{es:List Bool}{lo:Int}{α:Type}{r:Rp α}{x:Operand}{σ:Nat->OI}
def DS.get{ts:List TS}{es0:List Bool}: ∀(r:List Oper) (es:List Bool) (k c:Nat),DS E G L ts Ss es0 k c r es-> ∀(j:Nat) (o:Oper),r[j]? =some o->
    ∃e,es[j]? =some e/\ ∃(needs:List NS) (t:TS),ts[k+j]? =some t/\uh G ts needs/\(needs.all fun n=>np L o (k+j) (n.at fun _=>nQ))=true/\d8 (k+j) o=true/\Nn L es0 (k+j) t=true/\
      (match e with
       |false=>o.dst.isSome=true/\ ∃lo hi,S9 L es0 (k+j) lo hi=true/\ ∀c σ,lo<=c->c<=hi->bn E (NR Ss c σ) L.toArray (t8 needs σ) o (t.at σ)
       |true=> ∀σ,ju E L.toArray (NR Ss (c+fH es j) σ) (t8 needs σ) o (fun x=>NR Ss (c+fH es j+1) (upd σ (k+j) x)) (fun x=>t.at (upd σ (k+j) x))):=by
  intro r
  induction r with
  |nil=>intro es k c _ j o h;simp at h
  |cons p r ih=>
    intro es k c h j o ho
    cases es with
    |nil=>exact h.elim
    |cons e es=>
      cases e with
      |false=>
        obtain⟨⟨needs,t,lo,hi,g1,g2,g3,g4,g5,g6,g7,g8⟩,V⟩:=h
        cases j with
        |zero=>
          simp at ho;subst ho
          exact⟨false,rfl,needs,t,g1,g2,g3,g4,g5,g7,lo,hi,g6,g8⟩
        |succ j=>
          obtain⟨e',g1,g2⟩:=ih es (k+1) _ V j o (by simpa using ho)
          refine⟨e',by simpa using g1,?_⟩
          rw [show k+1+j=k+(j+1)from by omega]at g2
          have e1:c+fH (false::es) (j+1)=c+fH es j:=by simp [fH]
          rw [e1];exact g2
      |true=>
        obtain⟨A,V⟩:=h
        cases j with
        |zero=>
          simp at ho;subst ho
          exact⟨true,rfl,A⟩
        |succ j=>
          obtain⟨e',g1,g2⟩:=ih es (k+1) _ V j o (by simpa using ho)
          refine⟨e',by simpa using g1,?_⟩
          rw [show k+1+j=k+(j+1)from by omega]at g2
          have e1:c+fH (true::es) (j+1)=c+1+fH es j:=by simp [fH];omega
          rw [e1];exact g2
structure ST(E:En)(G:kP)(l:List Oper)(ts:List TS)(Ss:List ((Nat->OI)->List OE))(es:List Bool)(done:Array Bool)(a:Act)(w:World)(S:SH)(σ:Nat->OI)(c:Nat):Prop where
 ext:je E.B E.w0 E.S0 w S
 sat:kb w S
 own:cH E.base E.B w S (NR Ss c σ)
 size:a.tmps.size=E.N.n
 defers:a.defers=E.N.ds
 dsz:done.size=l.length
 down: ∀j o,l[j]? =some o->done.getD j false=true-> ∀e∈o.after,Region.binds .any e=true->done.getD e.on false=true
 old: ∀k t,look G k=some t->(∀j o,l[j]? =some o->done.getD j false=true->o.dst≠some k)->t.p S (a.tmps.getD k undef)
 new: ∀j o d p,l[j]? =some o->done.getD j false=true->o.dst=some d->ts[j]? =some p->(p.at σ).p S (a.tmps.getD d undef)
 deps: ∀j p,done.getD j false=true->ts[j]? =some p-> ∀k∈p.1,done.getD k false=true
 chain: ∀k,es[k]? =some true->(done.getD k false=true↔fH es k<c)
variable{S S' :SH}{a:Act}{b:Nat}{done:Array Bool}{f:FuncId}{κ:Type}{m:List (κ×β)}{v:Value}{w w' :World}
section
variable{ts:List TS}
def ST.need{c:Nat}(h:ST E G L ts Ss es done a w S σ c){i:Nat}(hi:L[i]? =some o)(hun:done.getD i true=false)(hwait: ∀e∈o.after,Region.binds .any e=true->done.getD e.on false=true){needs:List NS}(A:uh G ts needs)(V:(needs.all fun n=>np L o i (n.at fun _=>nQ))=true):cm E.N S a (t8 needs σ):=by
 have hlt:i<done.size:=by rw [h.dsz];exact(pG.1 hi).1
 have hun' :done.getD i false=false:=by
  simp [hlt]at hun ⊢;exact hun
 refine⟨h.size,h.defers,?_⟩
 have key: ∀n∈needs,(n.ty σ).p S (a.tmps.getD n.slot undef):=by
  intro n hn
  have hs:=lY.1 V n hn
  have ho:=A.mem n hn
  unfold np NS.at at hs
  unfold Sd at ho
  cases hsrc:n.src with
  |some j=>
   rw [hsrc]at hs ho
   simp only [gM]at hs
   obtain⟨hs1,hs2⟩:=hs
   cases hj:L[j]? with
   |none=>rw [hj]at hs1;cases hs1
   |some p=>
    rw [hj]at hs1
    cases hd:p.dst with
    |none=>simp only [hd]at hs1;cases hs1
    |some d=>
     simp only [hd]at hs1
     have hd' :=nk hs1
     subst hd'
     have hdone:done.getD j false=true:=by
      unfold AB at hs2
      obtain⟨e,he0,H⟩:=A4.1 hs2
      have he:e∈o.after:=by simpa using he0
      simp only [gM]at H
      have:=hwait e he H.2
      rwa [nk H.1]at this
     have hm:=ho σ
     cases hf:ts[j]? with
     |none=>rw [hf]at hm;simp at hm
     |some f=>
      rw [hf]at hm
      have e:f.at σ=n.ty σ:=by simpa using hm
      rw [<-e]
      exact h.new j p n.slot f hj hdone hd hf
  |none=>
   rw [hsrc]at hs ho
   refine h.old _ _ (ho σ) fun j p hj hdone hd=>?_
   have:=lY.1 hs p (rb hj)
   simp only [hd,Nat.beq_refl,pi,wI]at this
   unfold AB at this
   obtain⟨e,he0,H⟩:=A4.1 this
   have he:e∈p.after:=by simpa using he0
   simp only [gM]at H
   have h3:=h.down j p hj hdone e he H.2
   rw [nk H.1]at h3
   rw [h3]at hun'
   cases hun'
 clear A V
 intro k t hk
 unfold t8 at hk
 induction needs with
 |nil=>simp [iG,look]at hk
 |cons n needs ih=>
  simp only [sn]at hk
  unfold iG look at hk
  by_cases H:Nat.beq n.slot k=true
  ·have hb' :Nat.beq (n.at σ).slot k=true:=H
   rw [hb']at hk
   have:=nk H
   subst this
   have h9:some (n.at σ).ty=some t:=by simpa using hk
   have e:n.ty σ=t:=nO h9
   rw [<-e]
   exact key n (ln ..)
  ·rw [zh]at H
   have hb' :Nat.beq (n.at σ).slot k=false:=H
   rw [hb']at hk
   exact ih (fun m hm=>key m (lH _ hm)) hk
def ST.step{σ' :Nat->OI}{c c' :Nat}(h:ST E G L ts Ss es done a w S σ c){i:Nat}{p0:TS}{C:Nat->Prop}(hi:L[i]? =some o)(hdN: ∀d,o.dst=some d->d<E.N.n)(hs2: ∀d,o.dst=some d-> ∀j p,L[j]? =some p->done.getD j false=true->p.dst=some d->i=j)(hwait: ∀e∈o.after,Region.binds .any e=true->done.getD e.on false=true)(M:ts[i]? =some p0)(hun:done.getD i true=false)(hdep: ∀k∈p0.1,k=i\/done.getD k false=true)(hext:je C w S w' S')(hC: ∀b,C b->E.base<=b\/E.B b)(hsat:kb w' S')(hown:cH E.base E.B w' S' (NR Ss c' σ'))(hσ: ∀k,k≠i->σ' k=σ k)(hv:(p0.at σ').p S' v)(hch: ∀k,es[k]? =some true->((done.setIfInBounds i true).getD k false=true↔fH es k<c')):
  ST E G L ts Ss es (done.setIfInBounds i true) (a.put o.dst v) w' S' σ' c' :=by
 have hlt:i<done.size:=by rw [h.dsz];exact(pG.1 hi).1
 have hset: ∀j,(done.setIfInBounds i true).getD j false=true->j=i\/done.getD j false=true:=fun j hj=>by
  by_cases hij:i=j
  ·exact .inl hij.symm
  ·rw [tX false hij]at hj;exact .inr hj
 have hseti:(done.setIfInBounds i true).getD i false=true:=by simp [hlt]
 have hun' :done.getD i false=false:=by simp [hlt]at hun ⊢;exact hun
 have hput: ∀k,(∀d,o.dst=some d->d≠k)->(a.put o.dst v).tmps.getD k undef=a.tmps.getD k undef:=fun k hk=>by
  cases hd:o.dst with
  |none=>rfl
  |some d=>
   have hda:d<a.tmps.size:=by rw [h.size];exact hdN d hd
   rw [rl hda,bG (hk d hd)]
 refine⟨h.ext.step hext hC,hsat,hown,?_,?_,by simp [h.dsz],fun j p hj hdone e he H=>?_,fun k u hk hno=>?_,fun j p d' u hj hdone hd' hu=>?_,fun j u hj hu k hk=>?_,hch⟩
 ·cases o.dst with
  |none=>exact h.size
  |some d=>simp [Act.put,h.size]
 ·cases o.dst with
  |none=>exact h.defers
  |some d=>exact h.defers
 ·rcases hset j hdone with rfl|hj'
  ·rw [hi]at hj
   have:o=p:=by simpa using hj
   subst this
   exact wa (hwait e he H)
  ·exact wa (h.down j p hj hj' e he H)
 ·rw [hput k fun d hd e=>hno i o hi hseti (by rw [hd,e])]
  exact u.mono hext.keep (h.old k u hk fun j p hj hdone=>hno j p hj (wa hdone))
 ·by_cases hij:j=i
  ·subst hij
   rw [hi]at hj
   have:o=p:=by simpa using hj
   subst this
   have hda:d' <a.tmps.size:=by rw [h.size];exact hdN d' hd'
   rw [hd',rl hda,bK rfl]
   rw [M]at hu
   have:p0=u:=by simpa using hu
   subst this
   exact hv
  ·have hj' :=(hset j hdone).resolve_left hij
   rw [hput d' fun d hd e=>by subst e;exact hij (hs2 d hd j p hj hj' hd').symm]
   have e1:u.at σ' =u.at σ:=congrArg u.2 (List.map_congr_left fun k hk=>hσ k fun e=>by
     subst e
     rw [h.deps j u hj' hu k hk]at hun';cases hun')
   rw [e1]
   exact Ty.mono _ hext.keep (h.new j p d' u hj hj' hd' hu)
 ·rcases hset j hj with rfl|hj'
  ·rw [M]at hu
   have:p0=u:=by simpa using hu
   subst this
   rcases hdep k hk with rfl|h'
   ·exact hseti
   ·exact wa h'
  ·exact wa (h.deps j u hj' hu k hk)
end
variable{aF:Exit->Act->World->Prop}
def G3{l t:List Oper}{ts:List TS}(hsl:uH E.N.n [] l=true)(hlen:ts.length=l.length)(hesl:es.length=l.length)(hd:DS E G (l++t) ts Ss es 0 0 l es)(hch:Kb (l++t) es=true)(M:wr (l++t) l.length t.length=true)(hQ: ∀a w S σ,St E (NR Ss (fH es es.length) σ) (HF l (PY ts σ) G) a w S->wpListIn (fw E.r) 0 E.P (l++t).toArray aF t a w):
  ∀(fuel:Nat) (done:Array Bool) (a:Act) (w:World) (S:SH) (σ:Nat->OI) (c:Nat),j5 done=fuel->(∀j,l.length<=j->done.getD j false=false)->c<=fH es es.length->ST E G (l++t) ts Ss es done a w S σ c->wpAnyIn (fw E.r) 0 E.P .any (l++t).toArray aF fuel done a w:=by
 have hL1: ∀i o,i<l.length->(l++t)[i]? =some o->l[i]? =some o:=fun i o hi h=>by rwa [xP hi]at h
 have hL2: ∀i o,l[i]? =some o->(l++t)[i]? =some o:=fun i o h=>by rw [xP (pG.1 h).1];exact h
 have htail: ∀m o,l.length<=m->(l++t)[m]? =some o->tI (l++t) m=true/\d8 m o=true:=fun m o hm ho=>by
  have hml:m<(l++t).length:=(pG.1 ho).1
  rw [mY]at hml
  unfold wr at M
  have:=lY.1 M (m-l.length) (by simp;omega)
  rw [show l.length+(m-l.length)=m from by omega,ho]at this
  simp only [gM]at this
  exact⟨this.1,this.2.1⟩
 have hget:=fun i o (hi:l[i]? =some o)=>DS.get l es 0 0 hd i o hi
 have hedge: ∀i o,(l++t)[i]? =some o->d8 i o=true:=fun i o hi=>by
  rcases lI i l.length with h|h
  ·obtain⟨_,_,_,_,_,_,_,h,_⟩:=hget i o (hL1 i o h hi)
   simpa using h
  ·exact(htail i o h hi).2
 obtain⟨hs1,hs2⟩:=AF l [] hsl
 have fin: ∀fuel done a w S σ c,j5 done=fuel->(∀j,l.length<=j->done.getD j false=false)->c<=fH es es.length->ST E G (l++t) ts Ss es done a w S σ c->(∀i,i<l.length->done.getD i false=true)->wpAnyIn (fw E.r) 0 E.P .any (l++t).toArray aF fuel done a w:=by
  intro fuel done a w S σ c hu hfree hcle h hall
  have hcc:c=fH es es.length:=by
   rcases lI c (fH es es.length)with hlt|hge
   ·obtain⟨i,A,V,h3⟩:=tQ hlt
    have:=(h.chain i V).1 (hall i (by omega))
    omega
   ·omega
  subst hcc
  refine wQ (n:=l.length) (fun m o hm ho=>(htail m o hm ho).1) hedge t l.length done fuel a w (eX _) (by simp) h.dsz (fun j hj=>⟨fun hjd=>?_,fun hlt=>hall j hlt⟩) hu
   (hQ a w S σ ⟨h.ext,h.sat,h.own,h.size,h.defers,fun j u hj=>?_⟩)
  ·rcases lI j l.length with h' |h'
   ·exact h'
   ·rw [hfree j h']at hjd;cases hjd
  ·rcases EP l (PY ts σ) j u (by unfold PY;rw [BL];exact hlen) hj with⟨i,o,A,V,h3⟩|⟨A,V⟩
   ·unfold PY at h3
    rw [Ei]at h3
    cases hf:ts[i]? with
    |none=>rw [hf]at h3;simp at h3
    |some f=>
     rw [hf]at h3
     have e:f.at σ=u:=by simpa using h3
     rw [<-e]
     exact h.new i o j f (hL2 i o A) (hall i (pG.1 A).1) V hf
   ·refine h.old j u A fun i o ho hdn=>?_
    rcases lI i l.length with h' |h'
    ·exact V o (rb (hL1 i o h' ho))
    ·rw [hfree i h']at hdn;cases hdn
 have lower: ∀done a w S σ c i,(∀j,l.length<=j->done.getD j false=false)->ST E G (l++t) ts Ss es done a w S σ c->i∈Region.ready .any (l++t).toArray done->l.length<=i-> ∀j,j<l.length->done.getD j false=true:=by
  intro done a w S σ c i hfree h hi hge j hj
  obtain⟨hun,p,hp,hwait⟩:=qv.1 hi
  have hp' :(l++t)[i]? =some p:=by simpa using hp
  have hcov:=(htail i p hge hp').1
  unfold tI at hcov
  have hre:=lY.1 hcov j (by simp;omega)
  exact fx h.down _ i j (fun q hq e he H=>by
   have:q=p:=by rw [hp']at hq;simpa using hq.symm
   subst this
   exact hwait e he H) hre
 have hchain: ∀i j,j<i->es[i]? =some true->es[j]? =some true->lM (l++t) (l++t).length i j=true:=fun i j hij A V=>by
  unfold Kb at hch
  have hil:i<es.length:=(pG.1 A).1
  have:=lY.1 (lY.1 hch i (by simpa using hil)) j (by simpa using hij)
  rw [A,V]at this
  simpa using this
 intro fuel
 induction fuel with
 |zero=>
  intro done a w S σ c hu hfree hcle h
  exact fin 0 done a w S σ c hu hfree hcle h fun i hi=>rh hu (by rw [h.dsz,mY];omega)
 |succ fuel ih=>
  intro done a w S σ c hu hfree hcle h
  by_cases hall: ∀i,i<l.length->done.getD i false=true
  ·exact fin _ done a w S σ c hu hfree hcle h hall
  have hready0: ∀m i,i<m->i<l.length->Region.ready .any (l++t).toArray done=[]->done.getD i false=true:=by
   intro m
   induction m with
   |zero=>intro i h;omega
   |succ m ihm=>
    intro i him hil hr
    have his:i<done.size:=by rw [h.dsz,mY];omega
    by_cases hdn:done.getD i true=true
    ·rw [<-mL his];exact hdn
    ·exfalso
     obtain⟨o,ho⟩: ∃o,(l++t)[i]? =some o:=⟨l[i],hL2 i _ (kQ hil)⟩
     have hmem:i∈Region.ready .any (l++t).toArray done:=by
      rw [qv]
      refine⟨by simpa using hdn,o,by simpa using ho,fun e he H=>?_⟩
      have:=hedge i o ho
      unfold d8 at this
      have:=lY.1 this e (by simpa using he)
      simp only [H,pi,wI,ur]at this
      exact ihm e.on (by omega) (by omega) hr
     rw [hr]at hmem;cases hmem
  refine⟨fun hr=>absurd (fun i hi=>hready0 (i+1) i (by omega) hi hr) hall,fun i hi=>?_⟩
  have hil:i<l.length:=by
   rcases lI i l.length with h' |h'
   ·exact h'
   ·exact absurd (lower done a w S σ c i hfree h hi h') hall
  obtain⟨hun,o,ho,hwait⟩:=qv.1 hi
  have ho' :(l++t)[i]? =some o:=by simpa using ho
  have hol:=hL1 i o hil ho'
  obtain⟨e,he,needs,u,A,V,h3,_,h4,h5⟩:=hget i o hol
  rw [ph]at A h3 h4
  have hF:=h.need ho' hun hwait V h3
  have his:i<done.size:=by rw [h.dsz,mY];omega
  have hun' :done.getD i false=false:=by rw [<-mL his];exact hun
  have hu' :j5 (done.setIfInBounds i true)=fuel:=by have:=oG hun;omega
  have huq: ∀d,o.dst=some d-> ∀j p,(l++t)[j]? =some p->done.getD j false=true->p.dst=some d->i=j:=fun d hdd j p hj hjd hpd=>by
   rcases lI j l.length with h' |h'
   ·exact hs2 i j o p d hol (hL1 j p h' hj) hdd hpd
   ·rw [hfree j h']at hjd;cases hjd
  have hfree' : ∀j,l.length<=j->(done.setIfInBounds i true).getD j false=false:=fun j hj=>by
   rw [tX false (by omega)];exact hfree j hj
  have hbl:E.base<=w.heap.size:=h.ext.size
  have hwaits: ∀q,(l++t)[i]? =some q-> ∀e∈q.after,Region.binds .any e=true->done.getD e.on false=true:=fun q hq e he H=>by
   have:q=o:=by rw [ho']at hq;simpa using hq.symm
   subst this
   exact hwait e he H
  have hdpp: ∀k∈u.1,k=i\/done.getD k false=true:=fun k hk=>by
   have:=lY.1 h4 k hk
   simp only [gM,ze]at this
   rcases this.2 with H|H
   ·exact .inl (nk H)
   ·exact .inr (fx h.down _ i k hwaits H)
  have hdNN: ∀d,o.dst=some d->d<E.N.n:=fun d hd=>(hs1 o (rb hol) d hd).1
  unfold wpOpIn
  rw [ho]
  show if _ then _ else _
  cases e with
  |false=>
   simp only at h5
   obtain⟨hdS,lo,hi',hwin,h5⟩:=h5
   rw [ph]at hwin
   obtain⟨d,hdd⟩:=Option.isSome_iff_exists.1 hdS
   have hdN:=(hs1 o (rb hol) d hdd).1
   unfold S9 at hwin
   rw [gM]at hwin
   obtain⟨hw1,hw2⟩:=hwin
   have hw1' :=pI hw1
   have hwk: ∀k,es[k]? =some true->(Nat.ble lo (fH es k)=true\/lM (l++t) (l++t).length i k=true)/\(Nat.blt (fH es k) hi' =true\/lM (l++t) (l++t).length k i=true):=fun k hk=>by
    have hkl:k<es.length:=(pG.1 hk).1
    have:=lY.1 hw2 k (by simpa using hkl)
    rw [hk]at this
    simpa using this
   have hlo:lo<=c:=by
    rcases lI c lo with hlt|hge
    ·exfalso
     obtain⟨k,hk1,hk2,hk3⟩:=tQ (es:=es) (c:=c) (k:=es.length) (by omega)
     rcases(hwk k hk2).1 with H|H
     ·have:=pI H;omega
     ·have:=(h.chain k hk2).1 (fx h.down _ i k hwaits H)
      omega
    ·exact hge
   have hhi:c<=hi' :=by
    rcases lI hi' c with hlt|hge
    ·exfalso
     obtain⟨k,hk1,hk2,hk3⟩:=tQ (es:=es) (c:=hi') (k:=es.length) (by omega)
     rcases(hwk k hk2).2 with H|H
     ·simp only [ur]at H;omega
     ·have hkd:done.getD k false=true:=(h.chain k hk2).2 (by omega)
      have:=fx h.down _ k i (fun q hq e he H=>h.down k q hq hkd e he H) H
      rw [this]at hun';cases hun'
    ·exact hge
   have h6:=h5 c σ hlo hhi a w S h.sat h.own hF
   have hch' : ∀k,es[k]? =some true->((done.setIfInBounds i true).getD k false=true↔fH es k<c):=fun k hk=>by
    have hne:i≠k:=fun e=>by subst e;rw [he]at hk;cases hk
    rw [tX false hne];exact h.chain k hk
   by_cases hw:Region.wanted o (yielded (l++t).toArray a.tmps)=true
   ·rw [bK hw]at h6 ⊢
    refine jS (fun a' w' ⟨v,S',ha,D,hs,hv⟩=>?_) h6
    subst ha
    exact ih _ _ _ S' _ c hu' hfree' hcle (h.step ho' hdNN huq hwait A hun hdpp D (fun _ H=>H.elim) hs (h.own.ext0 D) (fun _ _=>rfl) hv hch')
   ·rw [bG hw]at h6 ⊢
    exact⟨fun _ _=>trivial,ih _ _ _ S _ c hu' hfree' hcle (h.step ho' hdNN huq hwait A hun hdpp (je.refl rp _ _) (fun _ H=>H.elim) h.sat h.own (fun _ _=>rfl) h6 hch')⟩
  |true=>
   simp only [ph]at h5
   -- it is the next one of the chain
   have hca:fH es i=c:=by
    have hn: ¬fH es i<c:=fun hlt=>by rw [(h.chain i he).2 hlt]at hun';cases hun'
    rcases lI c (fH es i)with hlt|hge
    ·exfalso
     obtain⟨k,hk1,hk2,hk3⟩:=tQ hlt
     have hkd:done.getD k false=true:=fx h.down _ i k hwaits (hchain i k hk1 he hk2)
     have:=(h.chain k hk2).1 hkd
     omega
    ·omega
   subst hca
   have h6:=h5 σ a w S h.sat h.own hF hbl
   have hch' : ∀k,es[k]? =some true->((done.setIfInBounds i true).getD k false=true↔fH es k<fH es i+1):=fun k hk=>by
    by_cases hik:i=k
    ·subst hik
     constructor
     ·intro _;omega
     ·intro _;simp [his]
    ·rw [tX false hik,h.chain k hk]
     constructor
     ·intro h;omega
     ·intro hlt
      rcases lI i k with hlk|hlk
      ·have:=Dw hlk he;omega
      ·exact Dw (by omega) hk
   have hcle' :fH es i+1<=fH es es.length:=Dw (by omega) he
   by_cases hw:Region.wanted o (yielded (l++t).toArray a.tmps)=true
   ·rw [bK hw]at h6 ⊢
    refine jS (fun a' w' ⟨v,S',x,ha,D,hs,hown,hv⟩=>?_) h6
    subst ha
    exact ih _ _ _ S' _ _ hu' hfree' hcle' (h.step ho' hdNN huq hwait A hun hdpp D (fun b ⟨f,hf,H⟩=>(cH.mem h.own f hf).2 b H) hs hown (fun k hk=>FF σ x hk) hv hch')
   ·rw [bG hw]at h6 ⊢
    obtain⟨x,hown,hv⟩:=h6
    exact⟨fun _ _=>trivial,ih _ _ _ S _ _ hu' hfree' hcle' (h.step ho' hdNN huq hwait A hun hdpp (je.refl rp _ _) (fun _ H=>H.elim) h.sat hown (fun k hk=>FF σ x hk) hv hch')⟩
variable{O:List OE}
def fm{id:Nat}(m:Nat)(ts:List TS)(es:List Bool)(Ss:List ((Nat->OI)->List OE))(hO:Ss[0]? =some fun _=>O)(hm:E.P.follows .mixedOrders=true)(hsl:uH E.N.n [] (L.take m)=true)(hlen:ts.length=(L.take m).length)(hesl:es.length=(L.take m).length)(hch:Kb L es=true)(M:wr L (L.take m).length (L.drop m).length=true)(hd:DS E G L ts Ss es 0 0 (L.take m) es)(k: ∀σ:Nat->OI,RG E L.toArray aF (L.drop m) (NR Ss (fH es es.length) σ) (HF (L.take m) (PY ts σ) G)):CG E aF (.region id L.toArray true) O G:=fun a w S st=>by
 have hL:L=L.take m++L.drop m:=(rX m L).symm
 generalize L.take m=l at hL hsl hlen hesl M hd k
 generalize L.drop m=t at hL M k
 subst hL
 refine wpIn_region_any hm ?_
 obtain⟨he,hs⟩:=zd (w:=w) st.sat
 have hO0:NR Ss 0 (fun _=>nQ)=O:=by unfold NR;rw [hO]
 refine G3 hsl hlen hesl hd hch M (fun a w S σ st=>k σ a w S st) _ _ _ _ S (fun _=>nQ) 0 ?_ (fun j _=>?_) (jM _)
  ⟨st.ext.step0 he,hs,by rw [hO0];exact st.own.ext0 he,st.facts.size,st.facts.defers,by simp,fun j o hj hdone=>?_,fun k t hk _=>st.facts.at_ k t hk,fun j o d t hj hdone=>?_,fun j p hdone=>?_,fun k _=>⟨fun hdone=>?_,fun h=>(by omega)⟩⟩
 ·unfold j5;rw [KC,Kx];simp
 ·simp [wM];split<;>rfl
 ·simp [wM]at hdone
  split at hdone<;>simp at hdone
 ·simp [wM]at hdone
  split at hdone<;>simp at hdone
 ·simp [wM]at hdone
  split at hdone<;>simp at hdone
 ·simp [wM]at hdone
  split at hdone<;>simp at hdone
def eY{p:Nat->(Nat->OI)->Prop}{lo:Nat}(h: ∀σ,p lo σ): ∀c σ,lo<=c->c<=lo->p c σ:=fun c σ A V=>by
 have:c=lo:=by omega
 subst this;exact h σ
def qx{p:Nat->(Nat->OI)->Prop}{lo hi:Nat}(h: ∀σ,p lo σ)(k: ∀c σ,lo+1<=c->c<=hi->p c σ): ∀c σ,lo<=c->c<=hi->p c σ:=fun c σ A V=>by
 by_cases e:c=lo
 ·subst e;exact h σ
 ·exact k c σ (by omega) V
variable{after:Array Edge}{g:Option (Nat×Bool)}{ok:α->Prop}{op:Op}{pos:String}{post:OI->List OE}
def yR{ty:TypeId}(hnd: ∀c,op≠ .defer c)(h: ∀a w S,kb w S->cH E.base E.B w S O->cm E.N S a G->E.base<=w.heap.size-> ∃w' S' x,(execOp a.eval ⟨none,op,ty,pos,after,g⟩).run E.P w= .ok .skip w' /\je (Lo O) w S w' S' /\kb w' S' /\cH E.base E.B w' S' (post x)):
  EffOK E O G ⟨none,op,ty,pos,after,g⟩ post (fun _=>rY):=fun a w S hs ho hf H=>by
 obtain⟨w',S',x,A,V,h3,h4⟩:=h a w S hs ho hf H
 refine⟨hnd,?_⟩
 rw [A]
 exact⟨undef,S',x,rfl,V,h3,h4,trivial⟩

abbrev HL:=List (Nat×Value)
def yz:HL->Nat->Option Value
 |[],_=>none
 |p::hs,o=>bif Nat.beq p.1 o then some p.2 else yz hs o
def sK: ∀{hs:HL} {o:Nat} {v:Value},yz hs o=some v->(o,v)∈hs
 |[],_,_,h=>by cases h
 |p::hs,o,v,h=>by
  unfold yz at h
  by_cases H:Nat.beq p.1 o=true
  ·rw [H]at h
   have e1:=nk H
   have e2:p.2=v:=nO h
   subst e1 e2
   exact ln ..
  ·rw [zh]at H
   rw [H]at h
   exact lH _ (sK h)
def rH{α:Type}(r:Rp α)(hs:HL):Rp α where
 sz:=r.sz
 agg:=r.agg
 rc:=fun S cs x=>r.rc S cs x/\ ∀p∈hs,cs[p.1]? =some p.2
 mono:=fun h k=>⟨r.mono h k.1,k.2⟩
 len:=fun k=>r.len k.1
 one:=fun k=>r.one k.1
 sc:=r.sc
variable{cs:List Value}{off:Nat}
def qb{hs:HL}{get:α->β}(h:g9 r off q get):g9 (rH r hs) off q get:=fun S cs x k=>h S cs x k.1
def Ns(h:cs[off]? =some v):(cs.drop off).take 1=[v]:=by
 have hlt:=(pG.1 h).1
 rw [wN hlt,(pG.1 h).2]
 rfl
def Xo{hs:HL}(h:yz hs off=some v):g9 (rH r hs) off rV (fun _=>v):=fun S cs x k=>by
 have A:=k.2 _ (sK h)
 exact⟨Ns A,r.one k.1 v (rb A)⟩
def HZ(z:List Value):HL->Prop
 |[]=>True
 |p::hs=>z[p.1]? =some p.2/\HZ z hs
variable{z:List Value}
def HZ.all: ∀{hs:HL},HZ z hs-> ∀p∈hs,z[p.1]? =some p.2
 |_::_,⟨h,_⟩,_,.head _=>h
 |_::_,⟨_,h⟩,_,.tail _ hm=>HZ.all h _ hm
def zH{x:α}{hs:HL}(h: ∀S,r.rc S z x)(k:HZ z hs): ∀S,(rH r hs).rc S z x:=fun S=>⟨h S,k.all⟩
def TC(hs:HL)(off sz:Nat):Bool:=hs.all fun p=>Nat.blt p.1 off||Nat.ble (off+sz) p.1
def UM(hs:HL)(off sz:Nat)(v:Option Value):HL->Prop
 |[]=>True
 |p::l=>((v=some p.2/\p.1=off/\sz=1)\/(yz hs p.1=some p.2/\(Nat.blt p.1 off||Nat.ble (off+sz) p.1)=true))/\UM hs off sz v l
variable{sz:Nat}
def UM.all{hs:HL}{v:Option Value}: ∀{l:HL},UM hs off sz v l-> ∀p∈l,(v=some p.2/\p.1=off/\sz=1)\/(yz hs p.1=some p.2/\(Nat.blt p.1 off||Nat.ble (off+sz) p.1)=true)
 |_::_,⟨h,_⟩,_,.head _=>h
 |_::_,⟨_,h⟩,_,.tail _ hm=>UM.all h _ hm
def vk{ds:List Value}{k:Nat}(hl:ds.length=sz)(hoff:off+sz<=cs.length)(h:(Nat.blt k off||Nat.ble (off+sz) k)=true):(cs.take off++ds++cs.drop (off+sz))[k]? =cs[k]? :=by
 simp only [ze,ur,Nat.ble_eq]at h
 have M:(cs.take off).length=off:=by simp;omega
 rcases h with h|h
 ·rw [xP (by simp;omega),xP (by omega),zk h]
 ·rw [uw (by simp;omega),ul]
  congr 1
  simp only [mY,M,hl];omega
def PC{ds:List Value}(hd:ds=[v])(hoff:off+1<=cs.length):(cs.take off++ds++cs.drop (off+1))[off]? =some v:=by
 subst hd
 have M:(cs.take off).length=off:=by simp;omega
 rw [xP (by simp;omega),uw (by omega),M,Nat.sub_self]
 rfl
variable{set:α->β->α}{y:α}
def wt{hs hs' :HL}{x:α}{y:β}(h:dW r off q set)(hk:UM hs off q.sz none hs')(hoff:Nat.ble (off+q.sz) r.sz=true):pA (rH r hs) (rH r hs') off q x y (set x y):=fun S cs ds A V=>by
 refine⟨h S cs x ds y A.1 V,fun p hp=>?_⟩
 rcases hk.all p hp with⟨e,_⟩|⟨g1,g2⟩
 ·cases e
 ·have hl:=r.len A.1
  rw [vk (q.len V) (by have:=pI hoff;omega) g2]
  exact A.2 _ (sK g1)
def Hl{hs:HL}(h:dW r off q set)(hk:TC hs off q.sz=true)(hoff:Nat.ble (off+q.sz) r.sz=true):dW (rH r hs) off q set:=fun S cs x ds y A V=>by
 refine⟨h S cs x ds y A.1 V,fun p hp=>?_⟩
 have hl:=r.len A.1
 rw [vk (q.len V) (by have:=pI hoff;omega) (lY.1 hk p hp)]
 exact A.2 _ hp
def rU:Rp Unit where
 sz:=1
 agg:=false
 rc:=fun _ cs _=> ∃v,cs=[v]/\v.oneCell' =true
 mono:=fun _ h=>h
 len:=fun⟨v,h,_⟩=>by rw [h];rfl
 one:=fun⟨v,h,k⟩ c hc=>by rw [h]at hc;simp at hc;subst hc;exact k
 sc:=fun _=>rfl
def hU(h:aC N G x (tV u))(ho:u.oneCell' =true):aC N G x (K rU ()):=fun S a hf=>by
 have A:a.eval x=u:=h S a hf
 rw [A]
 exact⟨[u],rfl,u,rfl,ho⟩

variable{T U:TypeId}{h2:MV β}{agg:Bool}{bytes cap:Nat}{dst:Option Tmp}{ops:Array Oper}{rest:List Oper}{xs:List α}{γ:β->Ty}
section
variable{e:Exit}
section
variable{ty:TypeId}
def ik{t:OI->Ty}(h:EffOK E O G ⟨none,op,ty,pos,after,none⟩ post t)(k: ∀x,RG E ops aF rest (post x) G):RG E ops aF (⟨none,op,ty,pos,after,none⟩::rest) O G:= .of rfl fun a w S st=>
 mH (fun a' w' ⟨v,S',x,ha,D,hs,ho,hv⟩=>by
  subst ha
  exact k x _ _ S' ⟨st.ext.step D fun b ⟨f,hf,H⟩=>(cH.mem st.own f hf).2 b H,hs,ho,st.facts.mono D.keep⟩) (h a w S st.sat st.own st.facts st.base_le)
def dB{γ:Type}{r' :Rp γ}{x:α}{x' :γ}{y:β}{v:Operand}(ti:TI E.P U sz bytes agg z)(hsz:q.sz=sz)(hset:pA r r' off q x y x')(hoff:Nat.ble (off+q.sz) r.sz=true)(hp:aC E.N G p (tV (ak b off)))(hv:aC E.N G v (K q y)):EffOK E (bx r T b x::O) G ⟨none,.store U p v,ty,pos,after,g⟩ (fun _=>bx r' T b x' ::O) (fun _=>rY):=yR (fun _ h=>(by cases h)) fun a w S hs ho hf H=>by
 have A:a.eval p=ak b off:=hp S a hf
 obtain⟨ds,V,h3⟩:=hv S a hf
 obtain⟨⟨hno,cur,h5,h6⟩,_⟩:=ho.1
 have hl:=r.len h6
 have hoff' :=pI hoff
 obtain⟨w',hr,e1,e2,e3,e4,e5,e6⟩:=gK ti hsz h3 h5 (off:=off) (by simp at hl;omega)
 have hrun:(execOp a.eval ⟨none,.store U p v,ty,pos,after,g⟩).run E.P w= .ok .skip w' :=by
  simp [execOp,A,V,Instr.storeAt,ak,Instr.sureAddr,hr]
 obtain⟨g1,g2,g3⟩:=kw (O:=O) hs (bx r T b x) (bx r' T b x') ho (fun _=>qu) (fun _=>qu) ⟨e1,e2,e3,e4.1,e4.2⟩ e6 ⟨hno,_,e5,by simpa using hset S _ _ h6 h3⟩ hno
 exact⟨w',S,nQ,hrun,g1.more fun k hk=>⟨_,ln ..,hk⟩,g2,g3⟩
def lc{hs hs' :HL}{x:α}{y:β}{v:Operand}(ti:TI E.P U 1 bytes false z)(hsz:q.sz=1)(hag:q.agg=false)(hset:dW r off q set)(hoff:Nat.ble (off+1) r.sz=true)(hk:UM hs off 1 (some u) hs')(hp:aC E.N G p (tV (ak b off)))(hv:aC E.N G v (K q y))(hu:aC E.N G v (tV u)):EffOK E (bx (rH r hs) T b x::O) G ⟨none,.store U p v,ty,pos,after,g⟩ (fun _=>bx (rH r hs') T b (set x y)::O) (fun _=>rY):=yR (fun _ h=>(by cases h)) fun a w S hsat ho hf H=>by
 have A:a.eval p=ak b off:=hp S a hf
 obtain⟨ds,V,h3⟩:=hv S a hf
 have hu' :a.eval v=u:=hu S a hf
 obtain⟨⟨hno,cur,h5,h6⟩,_⟩:=ho.1
 have hl:=r.len h6.1
 have hoff' :=pI hoff
 have hdl:=q.len h3
 have hds:ds=[u]:=by
  obtain⟨d,hd⟩:=List.length_eq_one_iff.1 (by rw [hdl,hsz]:ds.length=1)
  subst hd
  have e1:q.val [d]=d:=by simp [Rp.val,hag]
  rw [V,e1]at hu'
  rw [hu']
 obtain⟨w',hr,e1,e2,e3,e4,e5,e6⟩:=gK ti hsz h3 h5 (off:=off) (by simp at hl;omega)
 have hrun:(execOp a.eval ⟨none,.store U p v,ty,pos,after,g⟩).run E.P w= .ok .skip w' :=by
  simp [execOp,A,V,Instr.storeAt,ak,Instr.sureAddr,hr]
 rw [hsz]at e5
 have hnew:(rH r hs').rc S (cur.toList.take off++ds++cur.toList.drop (off+1)) (set x y):=by
  have h7:=hset S _ _ _ _ h6.1 h3
  rw [hsz]at h7
  refine⟨h7,fun p hp=>?_⟩
  rcases hk.all p hp with⟨f1,f2,_⟩|⟨f1,f2⟩
  ·rw [f2]
   exact PC (by rw [hds,nO f1]) (by omega)
  ·rw [vk (by rw [hdl,hsz]) (by omega) f2]
   exact h6.2 _ (sK f1)
 obtain⟨g1,g2,g3⟩:=kw (O:=O) hsat (bx (rH r hs) T b x) (bx (rH r hs') T b (set x y)) ho (fun _=>qu) (fun _=>qu) ⟨e1,e2,e3,e4.1,e4.2⟩ e6 ⟨hno,_,e5,by simpa using hnew⟩ hno
 exact⟨w',S,nQ,hrun,g1.more fun k hk=>⟨_,ln ..,hk⟩,g2,g3⟩
end
section
variable{ty:TypeId}
def m5{hs:HL}{x:α}(ti:TI E.P U 1 bytes false z)(hk:yz hs off=some u)(hm:bx (rH r hs) T b x∈O)(hp:aC E.N G p (tV (ak b off))):
  bM E O G ⟨dst,.load U p,ty,pos,after,g⟩ (tV u):=(bz (q:=rV) ti rfl rfl (Xo hk) hm hp).imp fun _ _ h=>(ye.1 h).1
def eg{q:Rp α}{r:Rp β}{hs:HL}{x:β}{h2:TypeId}{l:Option Nat}(ti:TI E.P U 1 bytes false z)(hk:yz hs off=some (Y l cap xs.length))(hm:bx (rH r hs) T b x∈O)(hm2:Z q h2 l cap xs∈O)(hp:aC E.N G p (tV (ak b off))):
  bM E O G ⟨dst,.load U p,ty,pos,after,g⟩ (tO q l cap xs):=fun a w S hs' ho hf=>
 mH (fun _ _ ⟨v,S',A,V,h3,h4⟩=>⟨v,S',A,V,h3,h4,by
  have h5:v=Y l cap xs.length:=h4
  rw [h5]
  exact kp (((ho.ext0 V).mem _ hm2).1)⟩) (m5 (g:=g) (ty:=ty) (pos:=pos) (after:=after) (dst:=dst) ti hk hm hp a w S hs' ho hf)
def QK{t:Ty}(A: ∀S v,t.p S v->v.oneCell' =true)(D:aC E.N G x t):bM E O G ⟨dst,.box T x,ty,pos,after,g⟩ (aU (rT t) ()):=
 Jx (fun S a hf=>WJ.2 ⟨A _ _ (D S a hf),D S a hf⟩)
end
def Qw:HL->HL->Prop
 |[],_=>True
 |p::l,hs=>yz hs p.1=some p.2/\Qw l hs
def Qw.all{hs:HL}: ∀{l:HL},Qw l hs-> ∀p∈l,p∈hs
 |_::_,⟨h,_⟩,_,.head _=>sK h
 |_::_,⟨_,h⟩,_,.tail _ hm=>Qw.all h _ hm
end

variable{B:Nat->Prop}{base:Nat}{x0 x1 x10 x11 x12 x13 x2 x3 x4 x5 x6 x7 x8 x9:OE}
def vp(h:cH base B w S (x0::x1::x2::x3::x4::x5::x6::x7::x8::x9::x10::x11::x12::x13::O)):cH base B w S (x13::x0::x1::x2::x3::x4::x5::x6::x7::x8::x9::x10::x11::x12::O):=
 (kN h vq (fun f hf=>by simp only [lK]at hf ⊢;rcases hf with h|h|h|h|h|h|h|h|h|h|h|h|h|h<;>simp [h])).swap
def DA(h:RG E ops aF rest (x13::x0::x1::x2::x3::x4::x5::x6::x7::x8::x9::x10::x11::x12::O) G):RG E ops aF rest (x0::x1::x2::x3::x4::x5::x6::x7::x8::x9::x10::x11::x12::x13::O) G:=fun a w S st=>h a w S (st.own_map vp)
def Ku{e:Exit}(h:AT E aF e (x13::x0::x1::x2::x3::x4::x5::x6::x7::x8::x9::x10::x11::x12::O) G):AT E aF e (x0::x1::x2::x3::x4::x5::x6::x7::x8::x9::x10::x11::x12::x13::O) G:=fun a w S st=>h a w S (st.own_map vp)
def IF{x14:OE}(h:cH base B w S (x0::x1::x2::x3::x4::x5::x6::x7::x8::x9::x10::x11::x12::x13::x14::O)):cH base B w S (x14::x0::x1::x2::x3::x4::x5::x6::x7::x8::x9::x10::x11::x12::x13::O):=
 (kN h vp (fun f hf=>by simp only [lK]at hf ⊢;rcases hf with h|h|h|h|h|h|h|h|h|h|h|h|h|h|h<;>simp [h])).swap
def Kt{e:Exit}{x14:OE}(h:AT E aF e (x14::x0::x1::x2::x3::x4::x5::x6::x7::x8::x9::x10::x11::x12::x13::O) G):AT E aF e (x0::x1::x2::x3::x4::x5::x6::x7::x8::x9::x10::x11::x12::x13::x14::O) G:=fun a w S st=>h a w S (st.own_map IF)
variable{O' :List OE}
def EffOK.perm{t:OI->Ty}(h:EffOK E O' G o post t)(k: ∀{w S},cH E.base E.B w S O->cH E.base E.B w S O')(m: ∀f∈O',f∈O):EffOK E O G o post t:=fun a w S hs ho hf H=>
 mH (fun _ _ ⟨v,S',x,A,V,h3,h4,h5⟩=>⟨v,S',x,A,V.more fun _ ⟨f,hf,hk⟩=>⟨f,m f hf,hk⟩,h3,h4,h5⟩) (h a w S hs (k ho) hf H)
namespace EffOK
section
variable{t:OI->Ty}
def fr1(h:EffOK E (x1::x0::O) G o post t):EffOK E (x0::x1::O) G o post t:=h.perm (fun hw=>cH.swap hw) (fun f hf=>by simp only [lK]at hf ⊢;rcases hf with h|h|h<;>simp [h])
def fr2(h:EffOK E (x2::x0::x1::O) G o post t):EffOK E (x0::x1::x2::O) G o post t:=h.perm (fun hw=>o0 hw) (fun f hf=>by simp only [lK]at hf ⊢;rcases hf with h|h|h|h<;>simp [h])
def fr3(h:EffOK E (x3::x0::x1::x2::O) G o post t):EffOK E (x0::x1::x2::x3::O) G o post t:=h.perm (fun hw=>qZ hw) (fun f hf=>by simp only [lK]at hf ⊢;rcases hf with h|h|h|h|h<;>simp [h])
def fr4(h:EffOK E (x4::x0::x1::x2::x3::O) G o post t):EffOK E (x0::x1::x2::x3::x4::O) G o post t:=h.perm (fun hw=>qY hw) (fun f hf=>by simp only [lK]at hf ⊢;rcases hf with h|h|h|h|h|h<;>simp [h])
def fr5(h:EffOK E (x5::x0::x1::x2::x3::x4::O) G o post t):EffOK E (x0::x1::x2::x3::x4::x5::O) G o post t:=h.perm (fun hw=>qX hw) (fun f hf=>by simp only [lK]at hf ⊢;rcases hf with h|h|h|h|h|h|h<;>simp [h])
def fr6(h:EffOK E (x6::x0::x1::x2::x3::x4::x5::O) G o post t):EffOK E (x0::x1::x2::x3::x4::x5::x6::O) G o post t:=h.perm (fun hw=>qW hw) (fun f hf=>by simp only [lK]at hf ⊢;rcases hf with h|h|h|h|h|h|h|h<;>simp [h])
def fr7(h:EffOK E (x7::x0::x1::x2::x3::x4::x5::x6::O) G o post t):EffOK E (x0::x1::x2::x3::x4::x5::x6::x7::O) G o post t:=h.perm (fun hw=>xC hw) (fun f hf=>by simp only [lK]at hf ⊢;rcases hf with h|h|h|h|h|h|h|h|h<;>simp [h])
def fr8(h:EffOK E (x8::x0::x1::x2::x3::x4::x5::x6::x7::O) G o post t):EffOK E (x0::x1::x2::x3::x4::x5::x6::x7::x8::O) G o post t:=h.perm (fun hw=>tS hw) (fun f hf=>by simp only [lK]at hf ⊢;rcases hf with h|h|h|h|h|h|h|h|h|h<;>simp [h])
def fr9(h:EffOK E (x9::x0::x1::x2::x3::x4::x5::x6::x7::x8::O) G o post t):EffOK E (x0::x1::x2::x3::x4::x5::x6::x7::x8::x9::O) G o post t:=h.perm (fun hw=>tR hw) (fun f hf=>by simp only [lK]at hf ⊢;rcases hf with h|h|h|h|h|h|h|h|h|h|h<;>simp [h])
def fr10(h:EffOK E (x10::x0::x1::x2::x3::x4::x5::x6::x7::x8::x9::O) G o post t):EffOK E (x0::x1::x2::x3::x4::x5::x6::x7::x8::x9::x10::O) G o post t:=h.perm (fun hw=>pC hw) (fun f hf=>by simp only [lK]at hf ⊢;rcases hf with h|h|h|h|h|h|h|h|h|h|h|h<;>simp [h])
def fr11(h:EffOK E (x11::x0::x1::x2::x3::x4::x5::x6::x7::x8::x9::x10::O) G o post t):EffOK E (x0::x1::x2::x3::x4::x5::x6::x7::x8::x9::x10::x11::O) G o post t:=h.perm (fun hw=>pB hw) (fun f hf=>by simp only [lK]at hf ⊢;rcases hf with h|h|h|h|h|h|h|h|h|h|h|h|h<;>simp [h])
def post_imp{post' :OI->List OE}(h:EffOK E O G o post t)(k: ∀{w S x},cH E.base E.B w S (post x)->cH E.base E.B w S (post' x)):EffOK E O G o post' t:=fun a w S hs ho hf H=>
 mH (fun _ _ ⟨v,S',x,A,V,h3,h4,h5⟩=>⟨v,S',x,A,V,h3,k h4,h5⟩) (h a w S hs ho hf H)
end
end EffOK
variable{P:Program}{cells:List Value}{mm:Bool}{ys zs:List α}
section
variable{ty:TypeId}
def xw{l:Option Nat}{foff:Nat}{v:β}{i:Int}(ti:TI E.P T sz bytes agg z)(hsz:q.sz=sz)(hset:dW r foff q set)(hoff:Nat.ble (foff+q.sz) r.sz=true)(hy:fE xs i=some y)(hz:xs.set i.toNat (set y v)=zs)(hp:aC E.N G p (tV (cK l (i.toNat*r.sz+foff))))(D:aC E.N G x (K q v)):EffOK E (fq r U l cap xs::O) G ⟨none,.store T p x,ty,pos,after,g⟩ (fun _=>fq r U l cap zs::O) (fun _=>rY):=yR (fun _ h=>(by cases h)) fun a w S hsat hown hf hbase=>by
 subst hz
 have A:a.eval p=cK l (i.toNat*r.sz+foff):=hp S a hf
 obtain⟨ds,V,h3⟩:=D S a hf
 obtain⟨h0,hy'⟩:=iu hy
 have hlt:i.toNat<xs.length:=(pG.1 hy').1
 obtain⟨cells,hraw,hrc,hno⟩:=hown.1.1
 obtain⟨b,cur,rfl,H,hle,hcs,h6⟩:=n7 hown.1.1 hy'
 obtain⟨cur',hb',hle',hmax,hcs',hct⟩:=hraw
 have hcc:cur' =cur:=by rw [H]at hb';injection hb' with e;injection e with e1;exact e1.symm
 subst hcc
 have hno' :S b=none:=hno b rfl
 have hoff' :=pI hoff
 have hl3:=q.len h3
 have hmul:i.toNat*r.sz+r.sz<=xs.length*r.sz:=by rw [<-Nat.succ_mul];exact wL _ hlt
 have hmul2:xs.length*r.sz<=cur'.size:=by rw [hcs];exact wL _ hle
 obtain⟨w',hr,e1,e2,e3,e4,e5,e6⟩:=gK ti hsz h3 H (off:=i.toNat*r.sz+foff) (by omega)
 have hrun:(execOp a.eval ⟨none,.store T p x,ty,pos,after,g⟩).run E.P w= .ok .skip w' :=by
  simp [execOp,A,V,Instr.storeAt,cK,ak,Instr.sureAddr,hr]
 have hnew:=hset S _ _ _ _ h6 h3
 have hrc' :=yl hnew hrc hlt
 have hcl:=kl hrc
 have hcells:(cur'.toList.take (i.toNat*r.sz+foff)++ds++cur'.toList.drop (i.toNat*r.sz+foff+q.sz)).take (xs.length*r.sz)=
   cells.take (i.toNat*r.sz)++(((cur'.toList.drop (i.toNat*r.sz)).take r.sz).take foff++ds++((cur'.toList.drop (i.toNat*r.sz)).take r.sz).drop (foff+q.sz))++cells.drop (i.toNat*r.sz+r.sz):=by
  subst hct
  apply GR
  intro j
  simp only [List.getElem?_take,List.getElem?_append,ul,zf,xV,mY,DP]
  rcases lI j (xs.length*r.sz)with hj|hj
  ·simp only [hj,gO]
   rcases lI j (i.toNat*r.sz)with hj1|hj1
   ·rw [bK (by omega),bK (by omega),bK (by omega),bK (by omega),bK (by omega),bK (by omega)]
   ·rcases lI j (i.toNat*r.sz+foff)with hj2|hj2
    ·rw [bK (by omega),bK (by omega),bK (by omega),bK (by omega),bG (by omega),bK (by omega),bK (by omega),bK (by omega),bK (by omega)]
     congr 1;omega
    ·rcases lI j (i.toNat*r.sz+foff+q.sz)with hj3|hj3
     ·rw [bK (by omega),bG (by omega),bK (by omega),bG (by omega),bK (by omega),bG (by omega)]
      congr 1;omega
     ·rw [bG (by omega)]
      rcases lI j (i.toNat*r.sz+r.sz)with hj4|hj4
      ·rw [bK (by omega),bG (by omega),bG (by omega),bK (by omega)]
       congr 1;omega
      ·rw [bG (by omega),bK (by omega)]
       congr 1;omega
  ·rw [bG (by omega),bG (by omega),bG (by omega)]
 obtain⟨g1,g2,g3⟩:=kw (O:=O) hsat (fq r U (some b) cap xs) (fq r U (some b) cap (xs.set i.toNat (set y v))) hown (fun k=>⟨fun h=>(nO h).symm,fun h=>by rw [h];rfl⟩) (fun k=>⟨fun h=>(nO h).symm,fun h=>by rw [h];rfl⟩) ⟨e1,e2,e3,e4.1,e4.2⟩ e6
  ⟨_,⟨_,e5,by rw [BT];exact hle,hmax,by simp only [BV,mY,zf,xV,DP];omega,by rw [BT];exact hcells⟩,hrc',fun k hk=>by rw [<-nO hk];exact hno'⟩ hno'
 exact⟨w',S,nQ,hrun,g1.more fun c hc=>⟨_,ln ..,by rw [hc];rfl⟩,g2,g3⟩
def J0{v:α}{i:Int}(ti:TI E.P U sz bytes agg z)(hsz:r.sz=sz)(hy:fE xs i=some y)(hz:xs.set i.toNat v=zs)(hp:aC E.N G p (tV (ak b (i.toNat*r.sz))))(hv:aC E.N G x (K r v)):EffOK E (bx (n8 r n) T b xs::O) G ⟨none,.store U p x,ty,pos,after,g⟩ (fun _=>bx (n8 r n) T b zs::O) (fun _=>rY):=yR (fun _ h=>(by cases h)) fun a w S hsat hown hf hbase=>by
 subst hz
 have A:a.eval p=ak b (i.toNat*r.sz):=hp S a hf
 obtain⟨ds,V,h3⟩:=hv S a hf
 obtain⟨⟨hno,cur,h5,h6⟩,_⟩:=hown.1
 obtain⟨h0,hy'⟩:=iu hy
 have hlt:i.toNat<xs.length:=(pG.1 hy').1
 have hl:=kl h6.2
 simp only [DP]at hl
 have hmul:i.toNat*r.sz+r.sz<=xs.length*r.sz:=by rw [<-Nat.succ_mul];exact wL _ hlt
 obtain⟨w',hr,e1,e2,e3,e4,e5,e6⟩:=gK ti hsz h3 h5 (off:=i.toNat*r.sz) (by omega)
 have hrun:(execOp a.eval ⟨none,.store U p x,ty,pos,after,g⟩).run E.P w= .ok .skip w' :=by
  simp [execOp,A,V,Instr.storeAt,ak,Instr.sureAddr,hr]
 obtain⟨g1,g2,g3⟩:=kw (O:=O) hsat (bx (n8 r n) T b xs) (bx (n8 r n) T b (xs.set i.toNat v)) hown (fun _=>qu) (fun _=>qu) ⟨e1,e2,e3,e4.1,e4.2⟩ e6 ⟨hno,_,e5,by rw [BT];exact h6.1,yl h3 h6.2 hlt⟩ hno
 exact⟨w',S,nQ,hrun,g1.more fun c hc=>⟨_,ln ..,hc⟩,g2,g3⟩

section
def mM{x:α}(ti:TI E.P T sz bytes agg z)(D: ∀S,r.rc S z x):
  EffOK E O G ⟨some d,.alloc T,ty,pos,after,g⟩ (fun i=>bx r T (i.h 0).2 x::O) (fun i=>tV (ak (i.h 0).2 0)):=fun a w S hs ho hf H=>by
 obtain⟨zv,hzr,hzc⟩:=ti.zero w
 obtain⟨he,hs',hno⟩:=jq (w:=w) (.cells z.toArray T (0,0)) hs
 have hrun:(execOp a.eval ⟨some d,.alloc T,ty,pos,after,g⟩).run E.P w= .ok (.value (ak w.heap.size 0)) (w.alloc (.cells z.toArray T (0,0))):=by
  simp [execOp,Instr.alloc,hzr,newVar,newRow,hzc,ak]
 refine⟨fun c h=>(by cases h),?_⟩
 rw [hrun]
 exact⟨_,S,oi none w.heap.size,rfl,he.more fun _ H=>H.elim,hs',p9 ho he (e:=bx r T w.heap.size x) ⟨hno,z.toArray,wn w _,by simpa using D S⟩ (fun b H=>Aw H.symm) H,rfl⟩
def Ae{xs:List Operand}{ats:Array TypeId}(hc:aj E.P f=true)(hs:jG E.P f ts false r T ys)(D:iA E.N G xs ts):
  EffOK E O G ⟨some d,.call ⟨.value (.func f),xs.toArray,ats⟩,ty,pos,after,g⟩ (fun i=>fq r T (i.h 0).1 (i.h 0).2 ys::O) (fun i=>tV (Y (i.h 0).1 (i.h 0).2 ys.length)):=Nk (mm:=false) hc hs D (fun _ _ _ _ _=>rfl)
end
section
def cM{l:Option Nat}{o i:Nat}(hf:aT E.P T i=some (off,sz))(h0:Nat.beq sz 0=false)(hm:jL mm r U l cap xs∈O)(hy:fE xs j=some y)(hp:aC E.N G p (tV (cK l o)))(he:o+off=n):
  bM E O G ⟨dst,.fieldAddr T p i,ty,pos,after,g⟩ (tV (cK l n)):=by
 subst he
 exact D5 hf h0 hm hy hp
def bB(D:aC E.N G x (tV (ak b off))):bM E O G ⟨dst,.nilCheck x,ty,pos,after,g⟩ (tV (ak b off)):= .of_pure fun a w S _ _ hf=>by
 have A:a.eval x=ak b off:=D S a hf
 exact⟨ak b off,by simp [execOp,A,ak],rfl⟩
def qG{t:Ty}(ti:TI E.P U 1 bytes false z)(hp:aC E.N G p (aU (rT t) ())):bM E O G ⟨dst,.load U p,ty,pos,after,g⟩ t:=pu ti hp
end
def lw(h:O=O')(k:RG E ops aF rest O' G):RG E ops aF rest O G:=by subst h;exact k
def hW(h:aC N G x (tV u))(ho:u.oneCell' =true):aC N G x (K rV u):=fun S a hf=>ye.2 ⟨h S a hf,ho⟩
def Vo{t:Ty}(A: ∀S v,t.p S v->v.oneCell' =true)(h:aC N G x t):aC N G x (K (rT t) ()):=fun S a hf=>WJ.2 ⟨A _ _ (h S a hf),h S a hf⟩
def QH{args:α->List Ty}{res:β->Ty}{f:α->Option β}: ∀S v,(gn P args res f).p S v->v.oneCell' =true:=fun _ _ ⟨_,_,e,_⟩=>by rw [e];rfl
end

def Hg{l:Option Nat}{t' e' :TypeId}(M:P.underlying t' =some (.slice e'))(h:wk mm r U l cap xs w S)(hs:cE xs lo (xs.length:Int)=some ys):
  ∃news,Src P r.sz t' (lV r.sz l cap lo.toNat ys.length) ys.length news w/\pF r S news ys:=by
 obtain⟨cells,A,V,_⟩:=h
 obtain⟨lo',m,rfl,hm,h3,h4,rfl⟩:=fe hs
 have hm' :m=xs.length:=by omega
 subst hm'
 rw [xU,Ft]
 cases l with
 |none=>
  have D:xs=[]:=sW A.1
  subst D
  exact⟨[],by simpa [lV] using Src.ofNil w M 0,by simp [pF]⟩
 |some b=>
  obtain⟨cur,g1,g2,g3,g4,g5⟩:=A
  have hlen:(xs.drop lo').length=xs.length-lo' :=by simp
  have hcl:=kl V
  have hsp:xs=xs.take lo' ++xs.drop lo' :=(rX lo' xs).symm
  have htl:(xs.take lo').length=lo' :=by simp;omega
  have hr:pF r S (cells.drop (lo' *r.sz)) (xs.drop lo'):=by
   rw [hsp]at V
   have:=(nH V).2
   rwa [htl]at this
  have hmul:lo' *r.sz<=xs.length*r.sz:=wL _ h3
  refine⟨cells.drop (lo' *r.sz),?_,hr⟩
  unfold lV
  refine Src.ofSlice w M _ _ _ _ (kl hr) (fun j u hu=>?_) (ym hr)
  by_cases hc:cap=lo'
  ·have:xs.drop lo' =[]:=su (by omega)
   rw [this]at hr
   have hr' :cells.drop (lo' *r.sz)=[]:=hr
   rw [hr']at hu;simp at hu
  ·simp only [hc,iB]
   rw [gE,vS g1]
   rw [ul,<-g5]at hu
   have hj:lo' *r.sz+j<xs.length*r.sz:=by
    have:=(pG.1 hu).1
    simp at this;omega
   rw [zk hj]at hu
   simpa using hu
section
variable{ty:TypeId}
def Nx{l:Option Nat}{yt:TypeId}(M:E.P.underlying t=some (.slice e))(hm:jL mm r U l cap xs∈O)(hs:cE xs lo (xs.length:Int)=some ys)(D:aC E.N G x (tV (lV r.sz l cap lo.toNat ys.length)))(hd:Nat.blt d E.N.n=true)(k: ∀b,(b=true->ys=[])->RG E ops aF rest O ((d,K rB b)::G)):RG E ops aF (⟨some d,.binOp .eql t x (.const (.slice none 0 0)) yt,ty,pos,after,none⟩::rest) O G:= .of rfl fun a w S st=>by
 have A:a.eval x=lV r.sz l cap lo.toNat ys.length:=D S a st.facts
 obtain⟨⟨cells,hraw,_⟩,_⟩:=st.own.mem _ hm
 have hcn:a.eval (.const (.slice none 0 0))= .slice none 0 0:=rfl
 cases l with
 |none=>
  have hx0:xs=[]:=sW hraw.1
  have hy0:ys=[]:=by
   obtain⟨lo',m,_,_,_,_,rfl⟩:=fe hs
   subst hx0;simp
  have h3:(Op.equal t (.slice none 0 0) (.slice none 0 0)).run E.P w= .ok true w:=FU fun d=>by
   simp [Op.equalIn,gP M]
  have hrun:(execOp a.eval ⟨some d,.binOp .eql t x (.const (.slice none 0 0)) yt,ty,pos,after,none⟩).run E.P w= .ok (.value (.bool true)) w:=by
   simp [execOp,A,lV,hcn,eqGuard,binOp,h3]
  refine⟨fun c h=>(by cases h),?_⟩
  rw [hrun]
  exact k true (fun _=>hy0) _ _ S (st.step (je.refl _ _ _) st.sat hd (iP.2 rfl))
 |some b=>
  obtain⟨ad,hv⟩: ∃ad,lV r.sz (some b) cap lo.toNat ys.length= .slice (some ad) ys.length (cap-lo.toNat):=⟨_,rfl⟩
  have h3:(Op.equal t (.slice (some ad) ys.length (cap-lo.toNat)) (.slice none 0 0)).run E.P w= .ok false w:=FU fun d=>by
   simp [Op.equalIn,gP M]
  have hrun:(execOp a.eval ⟨some d,.binOp .eql t x (.const (.slice none 0 0)) yt,ty,pos,after,none⟩).run E.P w= .ok (.value (.bool false)) w:=by
   simp [execOp,A,hv,hcn,eqGuard,binOp,h3]
  refine⟨fun c h=>(by cases h),?_⟩
  rw [hrun]
  exact k false (fun e=>(by cases e)) _ _ S (st.step (je.refl _ _ _) st.sat hd (iP.2 rfl))
def Kn{t' :TypeId}{l l2:Option Nat}{cap2:Nat}{us:List α}{y:Operand}(ti:TI E.P T sz bytes agg z)(hsz:r.sz=sz)(hz:Nat.beq z.length sz=true)(h0:Nat.blt 0 sz=true)(h128:Nat.ble bytes 2048=true)(M:E.P.underlying t=some (.slice T))(ht' :t' =t)(hd:Nat.blt d E.N.n=true)(D:aC E.N G x (tV (Y l cap n)))(hm:jL mm r U l2 cap2 us∈fq r T l cap xs::O)(hs:cE us lo (us.length:Int)=some ys)(hy:aC E.N G y (tV (lV r.sz l2 cap2 lo.toNat ys.length)))(happ:lX xs ys=some zs)(k: ∀l' cap',RG E ops aF rest (fq r T l' cap' zs::O) ((d,tV (Y l' cap' zs.length))::G))(hn:n=xs.length:=by rfl):
  RG E ops aF (⟨some d,.call ⟨.builtin .append,#[x,y],#[t,t']⟩,ty,pos,after,none⟩::rest) (fq r T l cap xs::O) G:=by
 subst ht'
 exact xB (u:=fun cap' l' =>tV (Y l' cap' zs.length)) ti hsz hz h0 h128 M hd D (fun a w S st=>by
  have A:a.eval y=lV r.sz l2 cap2 lo.toNat ys.length:=hy S a st.facts
  rw [A]
  exact Hg M (st.own.mem _ hm).1 hs) happ (fun _ _ _ _ _=>rfl) k hn
end

section
variable{args:α->List Ty}{it:It α}{fp:Nat->Prop}
end

section
variable{ty:TypeId}
end


def kh(P:Program){h1 X ρ:Type}(args:h1->List Ty)(Ob:X->OI->List OE)(res:ρ->Ty)(f:X->h1->Option (ρ×X)):Ty where
 p:=fun S v=> ∀x y R,f x y=some R-> ∃fid fst cap,v= .func (.func fid) fst cap/\aj P fid=true/\ ∀i w S' vs,ot S S' ->kb w S' ->wl S' (args y) vs->cH 0 rp w S' (Ob x i)->
  Calls P fid (fst++vs.toArray++cap) w fun en w' => ∃j v S'',en= .returned v/\(res R.1).p S'' v/\je (Lo (Ob x i)) w S' w' S'' /\kb w' S'' /\cH 0 rp w' S'' (Ob R.2 j)/\ ∀k,Lo (Ob R.2 j) k->Lo (Ob x i) k\/w.heap.size<=k
 mono:=fun h k x y R hf=>by
  obtain⟨fid,fst,cap,e,hc,hs⟩:=k x y R hf
  exact⟨fid,fst,cap,e,hc,fun i w S' vs hle=>hs i w S' vs (SH.le_trans h hle)⟩
variable{O1:List OE}
section
section
variable{ty:TypeId}
end
def tH{h1 X ρ:Type}{args:h1->List Ty}{Ob:X->OI->List OE}{res:ρ->Ty}{f:X->h1->Option (ρ×X)}{x:X}{y:h1}{R:ρ×X}{i:OI}{ty:TypeId}{fo:Operand}{xs:List Operand}{ats:Array TypeId}(Or:List OE)(hO:O=Ob x i++Or)(hf:aC E.N G fo (kh E.P args Ob res f))(hR:f x y=some R)(D:iA E.N G xs (args y))(hpost: ∀j,Ob R.2 j++Or=post j):
  EffOK E O G ⟨some d,.call ⟨.value fo,xs.toArray,ats⟩,ty,pos,after,g⟩ post (fun _=>res R.1):=fun a w S hsat ho hF H=>by
 subst hO
 obtain rfl:(fun j=>Ob R.2 j++Or)=post:=funext hpost
 obtain⟨fid,fst,cap,e,hc,hs⟩:=hf S a hF x y R hR
 have hr:(execOp a.eval ⟨some d,.call ⟨.value fo,xs.toArray,ats⟩,ty,pos,after,g⟩).run E.P w= .ok (.enter fid (fst++(xs.map a.eval).toArray++cap)) w:=by
  simp [execOp,resolve,e,Deferred.ofValue,invoke,hZ hc]
 refine⟨fun c h=>(by cases h),?_⟩
 rw [hr]
 exact(hs i w S _ (SH.le_refl _) hsat (D.tys hF) (nM ho).1.weak).mono fun en w' ⟨j,v,S',he,hv,A,V,h3,h4⟩=>⟨_,he,v,S',j,rfl,A.more fun b ⟨f,hf,H⟩=>⟨f,BQ _ hf,H⟩,V,cH.turn ho H A h3 h4,hv⟩
def Nu{t:Ty}{Ob:OI->List OE}{i:OI}(h:ek P f ts O1 (fun _:OI=>t) (fun _=>Ob i)):ek P f ts O1 (fun _:OI=>t) Ob:=fun w S vs hs hv ho=>
 (h w S vs hs hv ho).mono fun _ _ ⟨_,v,S',A,V,h3,h4,h5,h6⟩=>⟨i,v,S',A,V,h3,h4,h5,h6⟩
section
variable{N:Nat}{w0:World}{S0:SH}{fn:Func}{ι:Type}{t:ι->Ty}{O2:ι->List OE}
def gF{rvs:List ResultVar}(hr:fn.results=rvs.toArray)(A:Nat.beq rvs.length 1=false)(h:Nv P ⟨N,[]⟩ G rvs ts)(i:ι)(hO:O=O2 i)(M:t i=tT ts):
  AT ⟨P,⟨N,[]⟩,Lo O1,w0,S0,none⟩ (bodyPost P fn (RT ⟨P,⟨N,[]⟩,Lo O1,w0,S0,none⟩ O1 t O2)) .ret O G:=fun a w S st=>by
 obtain⟨vs,k1,k2,k3⟩:=h.run st.sat st.facts
 have hne: ¬vs.length=1:=by rw [k3];intro e;rw [e]at A;cases A
 refine⟨st.facts.defers,.tuple vs.toArray,?_,LE st rfl i hO (by rw [M];exact⟨vs,rfl,k2⟩)⟩
 have e1:(fn.results.mapM (xb a.tmps)).run P w= .ok vs.toArray w:=by
  rw [hr,List.mapM_toArray,Sem.run_map,k1]
  rfl
 have e3:results fn a.tmps=((fn.results.mapM (xb a.tmps))>>=fun vs=>pure (if h:vs.size=1 then vs[0]else .tuple vs)):=rfl
 rw [e3,ow,e1]
 simp [Result.andThen,hne]
end
def WK(u:Value)(t:Ty):Ty where
 p:=fun S v=>v=u/\t.p S u
 mono:=fun h ⟨e,k⟩=>⟨e,t.mono h k⟩
def Vb{t:Ty}(h:aC N G x (WK u t)):aC N G x t:=fun S a hf=>by
 obtain⟨A,V⟩:=h S a hf
 rw [A];exact V
def St.settleP{k:Nat}{x:α}(h:St E (bx r T b x::O) G a w S)(hk:look G k=some (tV (ak b 0))): ∃S',St E O ((k,WK (ak b 0) (aU r x))::G) a w S' :=by
 obtain⟨S',A⟩:=h.settleB hk
 have hv:a.tmps.getD k undef=ak b 0:=h.facts.at_ k _ hk
 refine⟨S',⟨A.ext,A.sat,A.own,⟨A.facts.size,A.facts.defers,fun j t hj=>?_⟩⟩⟩
 have hp:(aU r x).p S' (a.tmps.getD k undef):=A.facts.at_ k _ (by simp [look])
 by_cases H:Nat.beq k j=true
 ·have e:=nk H
  subst e
  simp only [look,Nat.beq_refl,cond_true,Fu]at hj
  subst hj
  exact⟨hv,by rw [<-hv];exact hp⟩
 ·rw [zh]at H
  have:look ((k,aU r x)::G) j=some t:=by
   simp only [look,H,cond_false]at hj ⊢;exact hj
  exact A.facts.at_ j t this
def Kj{x:α}(k:Nat)(hk:look G k=some (tV (ak b 0)))(h:RG E ops aF rest O ((k,WK (ak b 0) (aU r x))::G)):RG E ops aF rest (bx r T b x::O) G:=
 fun a w _ st=>let⟨S',st'⟩:=st.settleP hk;h a w S' st'
end
variable{et kt:TypeId}{kv:κ->Value}{os:List (Option Nat×Nat)}
section
variable [DecidableEq κ]{k:κ}{i v:Operand}{dst:Option Nat}{ty:TypeId}
def y0{y:β}(hm:E.P.underlying t=some (.map kt et))(hk:wH E.P kt kv)(D:aC E.N G x (tV (am b)))(hi:ui E.N G i (kv k))(hv:aC E.N G v (γ y))(h: ∀os',RG E ops aF rest (br (F4 γ) kv b none os' (ie m k y)::O) G):
  RG E ops aF (⟨none,.insert t x i v,ty,pos,after,none⟩::rest) (br (F4 γ) kv b none os m::O) G:= .of rfl fun a w S st=>by
 have A:a.eval x=am b:=D S a st.facts
 have V:a.eval i=kv k:=hi S a st.facts
 have h3:(γ y).p S (a.eval v):=hv S a st.facts
 obtain⟨⟨hp,hfp⟩,hap,hO⟩:=st.own
 obtain⟨hno,hnb,es,clock,e3,e4,hst⟩:=hp
 obtain⟨q,hq,hdk,hinj⟩:=hk
 obtain⟨os1,p1,p2,_⟩:=nz hdk hinj (k:=k) 0 e4
 have hnb1: ∀o∈os1,o.1≠some b:=fun o ho=>by
  rcases p1 o ho with h|h
  ·exact hnb o h
  ·rw [h];exact fun e=>by cases e
 obtain⟨w',os',r,x1,x2,x3,x4⟩:=zP (h2:=F4 γ) (E:=E) (y:=y) (o:=(none,0)) (val:=a.eval v) st.sat hm ⟨q,hq,hdk,hinj⟩ ⟨hno,hnb1,es,clock,e3,p2,hst⟩ ⟨rfl,h3⟩ (fun e=>by cases e) (fun _ _ _ e=>by cases e)
 have hrun:(execOp a.eval ⟨none,.insert t x i v,ty,pos,after,none⟩).run E.P w= .ok .skip w' :=by simp [execOp,A,V,r]
 refine⟨fun c h=>(by cases h),?_⟩
 rw [hrun]
 have hfp' : ∀j,(br (F4 γ) kv b none os' (ie m k y)).fp j->(br (F4 γ) kv b none os m).fp j:=fun j hj=>by
  rcases x4 j hj with(h|⟨o,ho,e⟩)|e
  ·exact .inl h
  ·rcases p1 o ho with h|h
   ·exact .inr ⟨o,h,e⟩
   ·rw [h]at e;cases e
  ·cases e
 exact h os' _ _ S ⟨st.ext.step x1 (fun c hc=>hfp c (.inl hc)),x2,⟨⟨x3,fun j hj=>hfp j (hfp' j hj)⟩,fun f hf j hj=>hap f hf j (hfp' j hj),hO.ext x1 fun f hf j hj hjb=>hap f hf j (.inl hjb) hj⟩,st.facts⟩
end

def rJ{κ β:Type}(γ:β->Ty)(kv:κ->Value)(S:SH):List MapEntry->List (κ×β)->Prop
 |[],[]=>True
 |e::es,q::m=>e.key=kv q.1/\(γ q.2).p S e.val/\(∀p∈m,p.1≠q.1)/\rJ γ kv S es m
 |_,_=>False
def tG{κ β:Type}{γ:β->Ty}{kv:κ->Value}{S S' :SH}(h:ot S S'): ∀{es:List MapEntry} {m:List (κ×β)},rJ γ kv S es m->rJ γ kv S' es m
 |[],[],_=>trivial
 |_::_,q::_,⟨A,V,h3,h4⟩=>⟨A,(γ q.2).mono h V,h3,tG h h4⟩
def Pq{κ β:Type} [DecidableEq κ]{γ:β->Ty}{kv:κ->Value}{w:World}{S:SH}: ∀{es:List MapEntry} {os:List (Option Nat×Nat)} {m:List (κ×β)},um (F4 γ) kv w S none es os m->rJ γ kv S es m
 |[],[],[],_=>trivial
 |_::_,_::_,_::_,⟨A,V,_,h4,h5⟩=>⟨A,by rw [bG (by simp)]at V;exact V.2,h4,Pq h5⟩
def PT{κ β:Type} [DecidableEq κ]{γ:β->Ty}{kv:κ->Value}{w:World}{S:SH}: ∀{es:List MapEntry} {m:List (κ×β)},rJ γ kv S es m->um (F4 γ) kv w S none es (m.map fun _=>(none,0)) m
 |[],[],_=>trivial
 |_::_,_::_,⟨A,V,h3,h4⟩=>⟨A,by rw [bG (by simp)];exact⟨rfl,V⟩,fun _ _ _ h=>(by cases h),h3,PT h4⟩
def zw{κ β:Type}(γ:β->Ty)(kv:κ->Value)(m:List (κ×β)):Ty where
 p:=fun S v=> ∃b es clock,v=am b/\S b=some (.map es clock)/\rJ γ kv S es.toList m
 mono:=fun h ⟨b,es,cl,e,A,V⟩=>by
  obtain⟨o',h3,h4⟩:=h b _ A
  have h5:o' = .map es cl:=h4
  subst h5
  exact⟨b,es,cl,e,h3,tG h V⟩
def KZ: ∀S v,(zw γ kv m).p S v->v.oneCell' =true:=fun _ _ ⟨_,_,_,e,_⟩=>by rw [e];rfl
section
variable [DecidableEq κ]{k:κ}{i:Operand}{dst:Option Nat}{ty:TypeId}
def AL{z:β}{zv:Value}(hm:E.P.underlying t=some (.map kt et))(hk:wH E.P kt kv)(hz:ZV E.P et zv)(hzt: ∀S,(γ z).p S zv)(D:aC E.N G x (zw γ kv m))(hi:ui E.N G i (kv k)):
  bM E O G ⟨dst,.lookup t x i false,ty,pos,after,g⟩ (γ ((fD m k).getD z)):= .of_pure fun a w S hs ho hf=>by
 obtain⟨b,es,clock,A,h3,h4⟩:=D S a hf
 obtain⟨o',h5,h6⟩:=hs b _ h3
 have h7:o' = .map es clock:=h6
 subst h7
 obtain⟨q,hq,hd,hinj⟩:=hk
 have V:a.eval i=kv k:=hi S a hf
 obtain⟨_,_,_,h8⟩:=nz hd hinj (k:=k) 0 (PT (w:=w) h4)
 rcases h8 with⟨g1,g2⟩|⟨y,o,e,j,g1,g2,g3,g4,g5⟩
 ·refine⟨zv,by simp [execOp,A,V,jm hm hq (hd k) h5 hz g2],by rw [g1];exact hzt S⟩
 ·refine⟨e.val,by simp [execOp,A,V,jm hm hq (hd k) h5 hz g4],by rw [g1];exact g3.2⟩
def St.settleMp{j:Nat}(h:St E (br (F4 γ) kv b none os m::O) G a w S)(hk:look G j=some (tV (am b))): ∃S',St E O ((j,zw γ kv m)::G) a w S' :=by
 obtain⟨⟨hn,_,es,clock,h3,h4,_⟩,_⟩:=h.own.1
 obtain⟨h8,hle,_,_⟩:=w9 h (.inl rfl) h3 (sE _) hn
 have hv:a.tmps.getD j undef=am b:=h.facts.at_ j _ hk
 exact⟨_,h8.cons ⟨b,es,clock,hv,by simp [SH.set],tG hle (Pq h4)⟩⟩
def IQ{e:Exit}(j:Nat)(hk:look G j=some (tV (am b)))(h:AT E aF e O ((j,zw γ kv m)::G)):AT E aF e (br (F4 γ) kv b none os m::O) G:=
 fun a w _ st=>let⟨S',st'⟩:=st.settleMp hk;h a w S' st'
end

def GS:Nat:=1000000
def WT{α:Type}(r:Rp α)(x:α)(g:Nat):Ty where
 p:=fun S _=>(aU r x).p S (ak g 0)
 mono:=fun h k=>(aU r x).mono h k
def TF{x:α}{g:Nat}{vs:List Value}(hs:kb w S)(hg:(g,vs)∈glob)(hr: ∀S,r.rc S vs x):(aU r x).p S (ak g 0):=by
 obtain⟨c,T,fr,A,V⟩:=hs.gl _ hg
 refine⟨g,0,c,T,fr,rfl,A,?_⟩
 rw [sq,<-r.len (hr S)]
 have h3:c.toList.take vs.length=vs:=V
 rw [h3]
 exact hr S
variable{s:cB}
section
variable{ty:TypeId}
def Pd{t:Ty}(hf:cm N S a G)(h: ∀v,t.p S v):cm N S a ((GS,t)::G):=⟨hf.size,hf.defers,fun j u hj=>by
 unfold look at hj
 cases H:Nat.beq GS j with
 |true=>
  rw [H]at hj
  simp only [cond_true,Fu]at hj
  rw [<-hj];exact h _
 |false=>
  rw [H]at hj
  simp only [cond_false]at hj
  exact hf.at_ j u hj⟩
def Fj{x:α}{v:Nat}{vs:List Value}{t:Ty}(hg:(v,vs)∈glob)(hr: ∀S,r.rc S vs x)(h:bM E O ((GS,WT r x v)::G) o t):bM E O G o t:=fun a w S hs ho hf=>
 h a w S hs ho (Pd hf fun _=>TF hs hg hr)
def Sy{x:α}{v:Nat}:aC N ((GS,WT r x v)::G) (.global v) (aU r x):=fun S a hf=>hf.at_ GS (WT r x v) (by simp [look])
def CS(s:cB)(i:Int):Option Int:=(fE s i).map fun b=>(b.toNat:Int)
def zN{ix:Operand}{i y:Int}(M:E.P.underlying t=some .string)(D:aC E.N G x (K rS s))(hi:aC E.N G ix (K (rI k) i))(hy:CS s i=some y):
  bM E O G ⟨dst,.index t x ix,ty,pos,after,g⟩ (K (rI .u8) y):= .of_pure fun a w S _ _ hf=>by
 have A:a.eval x= .string ⟨s.toArray⟩:=qy.1 (D S a hf)
 have V:a.eval ix= .int k i:=eD.1 (hi S a hf)
 unfold CS at hy
 cases H:fE s i with
 |none=>rw [H]at hy;cases hy
 |some b=>
  rw [H]at hy
  obtain⟨g1,g2⟩:=iu H
  have hlt:i.toNat<s.length:=(pG.1 g2).1
  have e:y=(b.toNat:Int):=by simpa using hy.symm
  have hsz:(ByteArray.mk s.toArray).size=s.length:=by simp [ByteArray.size]
  refine⟨.int .u8 y,?_,eD.2 rfl⟩
  have h3:=run_index_string (P:=E.P) w t ⟨s.toArray⟩ k i M
  rw [dif_pos (by rw [hsz];omega)]at h3
  have h4:(ByteArray.mk s.toArray)[i.toNat]'(by rw [hsz];exact hlt)=b:=by
   have:=(pG.1 g2).2
   show s.toArray[i.toNat]=b
   simpa using this
  simp only [execOp,A,V,ow,h3,pl,Ax]
  rw [h4,e]
def zM{u:cB}{hi:Operand}(M:E.P.underlying t=some .string)(D:aC E.N G x (K rS s))(hh:aC E.N G hi (K (rI k) j))(hy:cE s 0 j=some u):
  bM E O G ⟨dst,.slice t x none (some hi) none,ty,pos,after,g⟩ (K rS u):= .of_pure fun a w S _ _ hf=>by
 have A:a.eval x= .string ⟨s.toArray⟩:=qy.1 (D S a hf)
 have V:a.eval hi= .int k j:=eD.1 (hh S a hf)
 obtain⟨l,m,e1,e2,e3,e4,e5⟩:=fe hy
 have el:l=0:=by omega
 subst el e2 e5
 have hsz:(ByteArray.mk s.toArray).size=s.length:=by simp [ByteArray.size]
 have h3:=run_slice_string_h (P:=E.P) w t ⟨s.toArray⟩ M k (m:Int) (by omega) (by rw [hsz];omega)
 refine⟨_,by simp only [execOp,A,V,Option.map_none,Eg,ow,run_sliceAt_string w t _ _ _ _ M,h3,pl,Ax];rfl,qy.2 ?_⟩
 congr 1
 apply ByteArray.ext
 simp
end
open Go.MapKept (Stamped)
section
variable [DecidableEq κ]
def tNx(b:Bool):Ty where
 p:=fun _ v=> ∃vs:List Value,v= .tuple (.mk (.bool b::vs))
 mono:=fun _ h=>h
end
section
variable [DecidableEq κ]{r:Nat}{left:List κ}{cur:Option κ}{k:κ}{i v:Operand}{dst:Option Nat}{ty:TypeId}
def F2{f:Bool}(D:aC E.N G x (tNx f)):bM E O G ⟨dst,.extract x 0,ty,pos,after,g⟩ (K rB f):=
 .of_pure fun a w S _ _ hf=>by
  obtain⟨vs,A⟩:=D S a hf
  exact⟨.bool f,by simp [execOp,A,Instr.extract],iP.2 rfl⟩
end
open Go.RowKit

def Nh(hs:kb w S)(h:Below w.heap.size w w')(hd:w.drawn<=w'.drawn):je rp w S w' S/\kb w' S:=
 ⟨⟨h.os,h.tape,h.output,hd,h.size,fun k hk _=>h.block k hk,SH.le_refl _,fun _ _ _=>rfl⟩,hs.same fun b o H=>h.block b (hs.lt H)⟩
def IB{t:cB}(h: ∀w:World,Mh w->Calls P f #[.string ⟨s.toArray⟩] w fun e w' =>e= .returned (.string ⟨t.toArray⟩)/\Below w.heap.size w w'):de P f [K rS s] (K rS t):=fun w S vs hs hv=>by
 match vs,hv with
 |[v],⟨A,_⟩=>
  obtain rfl:=qy.1 A
  refine(Iw (h w hs.tab) (fun w' hr=>by cases hr.1)).mono fun e w' ⟨⟨he,H⟩,hd⟩=>?_
  obtain⟨k1,k2⟩:=Nh hs H hd
  exact⟨_,S,he,k1,k2,qy.2 rfl⟩

def CC{k:IntKind}{S:SH}: ∀{xs:List Int} {cs:List Value},pF (rI k) S cs xs->cs=xs.map (Value.int k)
 |[],cs,h=>by rw [show cs=[]from h];rfl
 |x::xs,cs,⟨a,b,e,A,V⟩=>by
  rw [e,show a=[.int k x]from A,CC V]
  rfl
section
variable{ty:TypeId}
def MG(ha:E.P.underlying t=some (.array n e))(ti:TI E.P e sz bytes agg z)(hn:Nat.ble n maxLen=true)(D:aC E.N G x (aU (n8 r n) xs)):bM E O G ⟨dst,.slice t x none none none,ty,pos,after,g⟩ (K (eF r) xs):= .of_pure fun a w S _ _ hf=>by
 obtain⟨b,off,c,T,fr,A,V,h3,h4⟩:=D S a hf
 have hz:(⟨b,off,none⟩:Addr).add 0=⟨b,off,none⟩:=by rw [gE,BS]
 refine⟨.slice (some ⟨b,off,none⟩) n n,?_,kR.2 ⟨_,_,by rw [h3],by omega,pI hn,.inr ⟨b,off,c,T,fr,rfl,V,by rw [h3];exact h4⟩⟩⟩
 by_cases h0:n=0
 ·subst h0
  simp [execOp,A,Instr.sliceAt,gP ha,ti.sizeOf,Instr.sliceBounds,Instr.sureAddr]
 ·simp [execOp,A,Instr.sliceAt,gP ha,ti.sizeOf,Instr.sliceBounds,Instr.sureAddr,h0,hz]
def vH{ix:Operand}{i:Int}(M:E.P.underlying t=some (.array n e))(ti:TI E.P e sz bytes agg z)(hsz:r.sz=sz)(hag:r.agg=agg)(D:aC E.N G x (K (n8 r n) xs))(hi:aC E.N G ix (K (rI k) i))(hy:fE xs i=some y):bM E O G ⟨dst,.index t x ix,ty,pos,after,g⟩ (K r y):= .of_pure fun a w S _ _ hf=>by
 obtain⟨cs,A,V,h3⟩:=D S a hf
 have h1' :a.eval x= .agg cs.toArray:=A
 have h4:a.eval ix= .int k i:=eD.1 (hi S a hf)
 obtain⟨g1,g2⟩:=iu hy
 have hlt:i.toNat<xs.length:=(pG.1 g2).1
 have hg:=yn h3 g2
 have hin:0<=i/\i<(n:Int):=⟨g1,by omega⟩
 refine⟨r.val ((cs.drop (i.toNat*r.sz)).take r.sz),?_,_,rfl,hg⟩
 have hp:(part e cs.toArray (i.toNat*sz)).run E.P w= .ok (r.val ((cs.drop (i.toNat*r.sz)).take r.sz)) w:=by
  subst hsz
  subst hag
  have hl:=r.len hg
  unfold part
  simp only [ow,ti.isAgg,pl]
  cases hA:r.agg with
  |true=>
   simp [ti.sizeOf,Rp.val,hA]
  |false=>
   have A:=r.sc hA
   rw [A,BR]at hl ⊢
   cases hd:cs.drop i.toNat with
   |nil=>rw [hd]at hl;simp at hl
   |cons v l=>
    have hv:cs[i.toNat]? =some v:=by
     have:=ul (xs:=cs) (i:=i.toNat) (j:=0)
     rw [hd]at this
     simpa using this.symm
    simp [Rp.val,hA,hv]
 simp [execOp,h1',h4,Instr.index,asIntOf,gP M,hin,ti.sizeOf,hp]

def qc(s:cB)(i:Nat):Nat×Nat:=Utf8.decode ⟨s.toArray⟩ i
def qA(s:cB):Nat->Nat->List (Int×Int)
 |0,_=>[]
 |f+1,i=>if i<s.length then((i:Int),((qc s i).1:Int))::qA s f (i+(qc s i).2)else []
def Ht(s:cB):List (Int×Int):=qA s (s.length+1) 0
def RX(s:cB)(i:Nat):1<=(qc s i).2:=by
 unfold qc Utf8.decode
 simp only []
 repeat' split
 all_goals simp
def DZ(r:Nat)(s:cB)(left:List (Int×Int)):OE where
 fp:=fun j=>j=r
 p:=fun w S=>S r=none/\ ∃pos f,w.heap[r]? =some (.stringIter ⟨s.toArray⟩ pos)/\left=qA s f pos/\s.length<pos+f
 here:=by
  rintro w S ⟨_,pos,f,h,_⟩ j rfl
  exact(wO.1 h).1
 kept:=by
  rintro C w w' S S' ⟨h0,pos,f,h,V⟩ k hC
  have hlt:=(wO.1 h).1
  exact⟨by rw [k.old r hlt (hC r rfl)];exact h0,pos,f,by rw [k.heap r hlt (hC r rfl)];exact h,V⟩
def ID(M:E.P.underlying t=some .string)(D:aC E.N G x (K rS s))(hd:Nat.blt d E.N.n=true)(k: ∀r,RG E ops aF rest (DZ r s (Ht s)::O) ((d,tV (ak r 0))::G)):RG E ops aF (⟨some d,.range t x,ty,pos,after,none⟩::rest) O G:= .of rfl fun a w S st=>by
 have hv:a.eval x= .string ⟨s.toArray⟩:=qy.1 (D S a st.facts)
 have hrun:(execOp a.eval ⟨some d,.range t x,ty,pos,after,none⟩).run E.P w= .ok (.value (ak w.heap.size 0)) (w.alloc (.stringIter ⟨s.toArray⟩ 0)):=by
  simp [execOp,hv,Instr.range,gP M,ak]
 refine⟨fun c h=>(by cases h),?_⟩
 rw [hrun]
 obtain⟨he,hs',hno⟩:=jq (w:=w) (.stringIter ⟨s.toArray⟩ 0) st.sat
 exact k w.heap.size _ _ S ⟨st.ext.step0 he,hs',p9 st.own he ⟨hno,0,s.length+1,wn w _,rfl,by omega⟩ (fun b H=>by rw [show b=_ from H];exact eX _) st.base_le,st.facts.put hd rfl⟩
def Kk{r:Nat}{left:List (Int×Int)}(D:aC E.N G x (tV (ak r 0)))(hd:Nat.blt d E.N.n=true)(h0:left=[]->RG E ops aF rest (DZ r s []::O) ((d,tNx false)::G))(A: ∀e l,left=e::l->RG E ops aF rest (DZ r s l::O) ((d,tT [K rB true,K (rI .i64) e.1,K (rI .i32) e.2])::G)):
  RG E ops aF (⟨some d,.next x true,ty,pos,after,none⟩::rest) (DZ r s left::O) G:= .of rfl fun a w S st=>by
 obtain⟨⟨⟨hno,ps,f,H,hl,hf⟩,hfp⟩,hap,hO⟩:=st.own
 have hv:a.eval x=ak r 0:=D S a st.facts
 have hsz:(ByteArray.mk s.toArray).size=s.length:=by simp [ByteArray.size]
 have hg:(getObj r).run E.P w= .ok (.stringIter ⟨s.toArray⟩ ps) w:=by
  simp [getObj,Sem.run,H]
 by_cases hp:ps<s.length
 ·obtain⟨f,rfl⟩: ∃f',f=f' +1:=⟨f-1,by omega⟩
  have hl2:left=((ps:Int),((qc s ps).1:Int))::qA s f (ps+(qc s ps).2):=by rw [hl,qA,bK hp]
  have hset:(setObj r (.stringIter ⟨s.toArray⟩ (ps+(qc s ps).2))).run E.P w= .ok () {w with heap:=w.heap.setIfInBounds r (.stringIter ⟨s.toArray⟩ (ps+(qc s ps).2))}:=by
   simp [setObj,Sem.run,H]
  have hrun:(execOp a.eval ⟨some d,.next x true,ty,pos,after,none⟩).run E.P w= .ok (.value (.tuple #[.bool true,.int .i64 ps,.int .i32 (qc s ps).1])) {w with heap:=w.heap.setIfInBounds r (.stringIter ⟨s.toArray⟩ (ps+(qc s ps).2))}:=by
   have h3:(Instr.next (ak r 0) true ty).run E.P w= .ok (.tuple #[.bool true,.int .i64 ps,.int .i32 (qc s ps).1]) {w with heap:=w.heap.setIfInBounds r (.stringIter ⟨s.toArray⟩ (ps+(qc s ps).2))}:=by
    unfold Instr.next ak
    simp only [ow,hg,pl,hsz,hp,gO]
    rw [show Utf8.decode ⟨s.toArray⟩ ps=qc s ps from rfl]
    simp only [ow,hset,pl]
    rfl
   simp [execOp,hv,h3]
  refine⟨fun c h=>(by cases h),?_⟩
  rw [hrun]
  have hblt:=(wO.1 H).1
  have hx' :je (fun k=> ∃f∈[DZ r s left],f.fp k) w S {w with heap:=w.heap.setIfInBounds r (.stringIter ⟨s.toArray⟩ (ps+(qc s ps).2))} S:=
   ⟨rfl,rfl,rfl,eX _,by simp,fun k _ hk=>by
    have:r≠k:=fun e=>hk ⟨_,KD _,e.symm⟩
    simp [this],SH.le_refl _,fun _ _ _=>rfl⟩
  have hs' :kb {w with heap:=w.heap.setIfInBounds r (.stringIter ⟨s.toArray⟩ (ps+(qc s ps).2))} S:=st.sat.same fun k o hk=>by
   have:r≠k:=fun e=>by subst e;rw [hno]at hk;cases hk
   simp [this]
  have hnew:(DZ r s (qA s f (ps+(qc s ps).2))).p {w with heap:=w.heap.setIfInBounds r (.stringIter ⟨s.toArray⟩ (ps+(qc s ps).2))} S:=
   ⟨hno,_,f,by simp [hblt],rfl,by have:=RX s ps;omega⟩
  refine A _ _ hl2 _ _ S ((st.turn (O1:=[DZ r s left]) (O2:=[DZ r s (qA s f (ps+(qc s ps).2))]) hx' hs' ⟨⟨hnew,fun k hk=> .inl (jM _)⟩,fun _ h=>(by cases h),trivial⟩ (fun k ⟨g,hg,hk⟩=>?_)).put hd ?_)
  ·have:g=DZ r s (qA s f (ps+(qc s ps).2)):=by simpa using hg
   subst this
   exact .inl ⟨_,KD _,hk⟩
  ·exact⟨[.bool true,.int .i64 ps,.int .i32 (qc s ps).1],rfl,iP.2 rfl,eD.2 rfl,eD.2 rfl,trivial⟩
 ·have hl2:left=[]:=by
   rw [hl]
   cases f with
   |zero=>rfl
   |succ f=>rw [qA,bG hp]
  have hrun:(execOp a.eval ⟨some d,.next x true,ty,pos,after,none⟩).run E.P w= .ok (.value (.tuple #[.bool false])) w:=by
   have h3:(Instr.next (ak r 0) true ty).run E.P w= .ok (.tuple #[.bool false]) w:=by
    unfold Instr.next ak
    simp only [ow,hg,pl,hsz,hp,iB]
    rfl
   simp [execOp,hv,h3]
  refine⟨fun c h=>(by cases h),?_⟩
  rw [hrun]
  subst hl2
  exact h0 rfl _ _ S (st.put hd ⟨[],rfl⟩)
def wz{t:Ty}{u:List Ty}{i:Nat}(hu:u[i]? =some t)(D:aC E.N G x (tT u)):bM E O G ⟨dst,.extract x i,ty,pos,after,g⟩ t:=CH hu D
def UE{aA:List β->Prop}{Of:List β->List OE}{Gf:kP}(h: ∀l,aA l->(∀l2,l2.length<l.length->aA l2->LG E aF c (Of l2) Gf)->LG E aF c (Of l) Gf)(l:List β)(hz:aA l):LG E aF c (Of l) Gf:=by
 have key: ∀(n:Nat) (l:List β),l.length<=n->aA l->LG E aF c (Of l) Gf:=by
  intro n
  induction n with
  |zero=>intro l hn hz;exact h l hz fun l2 V _=>absurd V (by omega)
  |succ n ih=>intro l hn hz;exact h l hz fun l2 V hz2=>ih l2 (by omega) hz2
 exact key l.length l (eX _) hz
end

abbrev NG:=Nat->(Option Nat×Nat)×(Nat->Option Nat×Nat)
inductive NPl where
 |o
 |i (k:Nat)
 |l (k j:Nat)
section
def hd2(q:Nat->Option Nat×Nat)(zs:List (List α)):List Value:=zs.mapIdx fun j z=>Y (q j).1 (q j).2 z.length
def hd1(prj:β->List (List α))(g:NG)(x:List β):List Value:=x.mapIdx fun k y=>Y (g k).1.1 (g k).1.2 (prj y).length
def nsB(prj:β->List (List α))(l:Option Nat)(g:NG)(x:List β)(h:Option (Nat×Nat)):NPl->Option Nat
 | .o=>l
 | .i k=>(x[k]?).bind fun _=>(g k).1.1
 | .l k j=>if h=some (k,j)then none else((x[k]?).bind fun y=>(prj y)[j]?).bind fun _=>((g k).2 j).1
structure nstP(prj:β->List (List α))(r:Rp α)(T1 T2 T3:TypeId)(l:Option Nat)(cap n:Nat)(g:NG)(x:List β)(h:Option (Nat×Nat))(w:World)(S:SH):Prop where
 len:x.length=n
 out:wk false rV T1 l cap (hd1 prj g x) w S
 inn: ∀k y,x[k]? =some y->wk false rV T2 (g k).1.1 (g k).1.2 (hd2 (g k).2 (prj y)) w S
 lvs: ∀k y j z,x[k]? =some y->(prj y)[j]? =some z->h≠some (k,j)->wk true r T3 ((g k).2 j).1 ((g k).2 j).2 z w S
 inj: ∀s t b,nsB prj l g x h s=some b->nsB prj l g x h t=some b->s=t
variable{prj:β->List (List α)}{T1 T2 T3:TypeId}{l:Option Nat}{g:NG}{x:List β}{h:Option (Nat×Nat)}
end
section
variable{prj:β->List (List α)}{T1 T2 T3:TypeId}{l:Option Nat}{g:NG}{x:List β}{h:Option (Nat×Nat)}
variable{ty:TypeId}{gd:Option (Nat×Bool)}
open Classical in
noncomputable def WL(w:World)(S:SH)(P:Nat->Prop):SH:=fun b=>if P b then w.heap[b]? else S b
def g0(hs:List (Option Nat×Nat)):NG:=fun k=>(hs.getD k (none,0),fun _=>(none,0))
def tsB(l:Option Nat)(q:Nat->Option Nat×Nat)(zs:List (List α))(h:Option Nat):Option Nat->Option Nat
 |none=>l
 |some j=>if h=some j then none else(zs[j]?).bind fun _=>(q j).1
structure rowP(r:Rp α)(T2 T3:TypeId)(l:Option Nat)(cap n:Nat)(q:Nat->Option Nat×Nat)(zs:List (List α))(h:Option Nat)(w:World)(S:SH):Prop where
 len:zs.length=n
 inn:wk false rV T2 l cap (hd2 q zs) w S
 lvs: ∀j z,zs[j]? =some z->h≠some j->wk true r T3 (q j).1 (q j).2 z w S
 inj: ∀s t b,tsB l q zs h s=some b->tsB l q zs h t=some b->s=t
variable{q:Nat->Option Nat×Nat}{zs:List (List α)}{k:Option Nat}
end

def D9(es:List Bool)(done:Array Bool):List Nat:=(List.range es.length).filter fun k=>(es[k]?).getD false&&done.getD k false
def QT(es:List Bool)(i:Nat)(s:List Nat):List Nat:=(List.range es.length).filter fun k=>Nat.beq k i||s.contains k
def Uu:List Nat->List Nat->Bool
 |[],[]=>true
 |a::s,b::t=>Nat.beq a b&&Uu s t
 |_,_=>false
def JX: ∀{s t:List Nat},Uu s t=true->s=t
 |[],[],_=>rfl
 |a::s,b::t,h=>by
  simp only [Uu,gM]at h
  rw [nk h.1,JX h.2]
 |[],_::_,h=>by cases h
 |_::_,[],h=>by cases h
def NQ:List (List Nat×((Nat->OI)->List OE))->List Nat->(Nat->OI)->List OE
 |[],_,_=>[]
 |p::r,s,σ=>bif Uu p.1 s then p.2 σ else NQ r s σ
def yq{k:Nat}:k∈D9 es done↔es[k]? =some true/\done.getD k false=true:=by
 unfold D9
 rw [List.mem_filter,List.mem_range,gM]
 constructor
 ·rintro⟨A,V,h3⟩
  refine⟨?_,h3⟩
  rw [kQ A]at V ⊢
  simpa using V
 ·rintro⟨A,V⟩
  exact⟨(pG.1 A).1,by rw [A];rfl,V⟩
def Nm{i:Nat}(h:es[i]? =some false):D9 es (done.setIfInBounds i true)=D9 es done:=by
 unfold D9
 refine List.filter_congr fun k hk=>?_
 by_cases hik:i=k
 ·subst hik;rw [h];rfl
 ·rw [tX false hik]
def RW{i:Nat}(h:es[i]? =some true)(hs:i<done.size):D9 es (done.setIfInBounds i true)=QT es i (D9 es done):=by
 unfold QT
 conv=>lhs;unfold D9
 refine List.filter_congr fun k hk=>?_
 by_cases hik:i=k
 ·subst hik;simp [h,hs]
 ·rw [tX false hik]
  have H:Nat.beq k i=false:=by
   cases H:Nat.beq k i with
   |false=>rfl
   |true=>exact absurd (nk H).symm hik
  rw [H,wI,wJ,GX,yq,gM]
  constructor
  ·rintro⟨A,V⟩
   refine⟨?_,V⟩
   cases he:es[k]? with
   |none=>rw [he]at A;cases A
   |some b=>rw [he]at A;simpa using A
  ·rintro⟨A,V⟩
   exact⟨by rw [A];rfl,V⟩
def Es:List Nat->List (List Nat)
 |[]=>[[]]
 |k::l=>(Es l).map (k:: ·)++Es l
def Bm(es:List Bool):List Nat:=(List.range es.length).filter fun k=>(es[k]?).getD false
def u5(p:Nat->Bool): ∀l:List Nat,l.filter p∈Es l
 |[]=>uk.2 rfl
 |k::l=>by
  unfold Es
  rw [uu]
  by_cases h:p k=true
  ·rw [List.filter_cons_of_pos h]
   exact .inl (xI.2 ⟨_,u5 p l,rfl⟩)
  ·rw [List.filter_cons_of_neg h]
   exact .inr (u5 p l)
def Pv(es:List Bool)(done:Array Bool):D9 es done∈Es (Bm es):=by
 have:D9 es done=(Bm es).filter fun k=>done.getD k false:=by
  unfold D9 Bm
  rw [List.filter_filter]
  refine List.filter_congr fun k _=>Bool.and_comm ..
 rw [this]
 exact u5 _ _
def WX(L:List Oper)(es:List Bool)(i:Nat)(s:List Nat):Bool:=
 s.contains i||(Bm es).any fun k=>if s.contains k then lM L L.length k i||(Bm es).any fun j=> !s.contains j&&lM L L.length k j else lM L L.length i k
def L5(L:List Oper)(es:List Bool)(i:Nat)(aas:List (List Nat)):Bool:=(Es (Bm es)).all fun s=>WX L es i s||aas.any fun a=>Uu a s
def IP{α:Type}(p:α->Prop):List α->Prop
 |[]=>True
 |a::l=>p a/\IP p l
def IP.mem{p:α->Prop}: ∀{l:List α},IP p l-> ∀a∈l,p a
 |_::_,⟨h,_⟩,_,.head _=>h
 |_::_,⟨_,h⟩,_,.tail _ hm=>IP.mem h _ hm
abbrev UL:=List (List Nat×((Nat->OI)->List OE))
def DT(E:En)(G:kP)(L:List Oper)(ts:List TS)(Ss:UL)(es0:List Bool):Nat->List Oper->List Bool->Prop
 |_,[],_=>True
 |i,o::rest,false::es=>(∃(needs:List NS) (t:TS) (aas:List (List Nat)),ts[i]? =some t/\uh G ts needs/\(needs.all fun n=>np L o i (n.at fun _=>nQ))=true/\d8 i o=true/\Nn L es0 i t=true/\L5 L es0 i aas=true/\o.dst.isSome=true/\
   IP (fun s=> ∀σ,bn E (NQ Ss s σ) L.toArray (t8 needs σ) o (t.at σ)) aas)/\DT E G L ts Ss es0 (i+1) rest es
 |i,o::rest,true::es=>(∃(needs:List NS) (t:TS) (aas:List (List Nat×List Nat)),ts[i]? =some t/\uh G ts needs/\(needs.all fun n=>np L o i (n.at fun _=>nQ))=true/\d8 i o=true/\Nn L es0 i t=true/\L5 L es0 i (aas.map (·.1))=true/\(aas.all fun p=>Uu (QT es0 i p.1) p.2)=true/\
   IP (fun p:List Nat×List Nat=> ∀σ,ju E L.toArray (NQ Ss p.1 σ) (t8 needs σ) o (fun x=>NQ Ss p.2 (upd σ i x)) (fun x=>t.at (upd σ i x))) aas)/\DT E G L ts Ss es0 (i+1) rest es
 |_,_::_,[]=>False
def DT.get{ts:List TS}{Ss:UL}{es0:List Bool}: ∀(r:List Oper) (es:List Bool) (k:Nat),DT E G L ts Ss es0 k r es-> ∀(j:Nat) (o:Oper),r[j]? =some o->
    ∃e,es[j]? =some e/\ ∃(needs:List NS) (t:TS),ts[k+j]? =some t/\uh G ts needs/\(needs.all fun n=>np L o (k+j) (n.at fun _=>nQ))=true/\d8 (k+j) o=true/\Nn L es0 (k+j) t=true/\
      (match e with
       |false=>o.dst.isSome=true/\ ∃aas,L5 L es0 (k+j) aas=true/\IP (fun s=> ∀σ,bn E (NQ Ss s σ) L.toArray (t8 needs σ) o (t.at σ)) aas
       |true=> ∃aas:List (List Nat×List Nat),L5 L es0 (k+j) (aas.map (·.1))=true/\(aas.all fun p=>Uu (QT es0 (k+j) p.1) p.2)=true/\IP (fun p:List Nat×List Nat=> ∀σ,ju E L.toArray (NQ Ss p.1 σ) (t8 needs σ) o (fun x=>NQ Ss p.2 (upd σ (k+j) x)) (fun x=>t.at (upd σ (k+j) x))) aas):=by
  intro r
  induction r with
  |nil=>intro es k _ j o h;simp at h
  |cons p r ih=>
    intro es k h j o ho
    cases es with
    |nil=>exact h.elim
    |cons e es=>
      cases e with
      |false=>
        obtain⟨⟨needs,t,aas,g1,g2,g3,g4,g5,g6,g7,g8⟩,V⟩:=h
        cases j with
        |zero=>
          simp at ho;subst ho
          exact⟨false,rfl,needs,t,g1,g2,g3,g4,g5,g7,aas,g6,g8⟩
        |succ j=>
          obtain⟨e',g1,g2⟩:=ih es (k+1) V j o (by simpa using ho)
          refine⟨e',by simpa using g1,?_⟩
          rw [show k+1+j=k+(j+1)from by omega]at g2
          exact g2
      |true=>
        obtain⟨⟨needs,t,aas,g1,g2,g3,g4,g5,g6,g7,g8⟩,V⟩:=h
        cases j with
        |zero=>
          simp at ho;subst ho
          exact⟨true,rfl,needs,t,g1,g2,g3,g4,g5,aas,g6,g7,g8⟩
        |succ j=>
          obtain⟨e',g1,g2⟩:=ih es (k+1) V j o (by simpa using ho)
          refine⟨e',by simpa using g1,?_⟩
          rw [show k+1+j=k+(j+1)from by omega]at g2
          exact g2
structure SS(E:En)(G:kP)(l:List Oper)(ts:List TS)(Ss:UL)(es:List Bool)(done:Array Bool)(a:Act)(w:World)(S:SH)(σ:Nat->OI):Prop where
 ext:je E.B E.w0 E.S0 w S
 sat:kb w S
 own:cH E.base E.B w S (NQ Ss (D9 es done) σ)
 size:a.tmps.size=E.N.n
 defers:a.defers=E.N.ds
 dsz:done.size=l.length
 down: ∀j o,l[j]? =some o->done.getD j false=true-> ∀e∈o.after,Region.binds .any e=true->done.getD e.on false=true
 old: ∀k t,look G k=some t->(∀j o,l[j]? =some o->done.getD j false=true->o.dst≠some k)->t.p S (a.tmps.getD k undef)
 new: ∀j o d p,l[j]? =some o->done.getD j false=true->o.dst=some d->ts[j]? =some p->(p.at σ).p S (a.tmps.getD d undef)
 deps: ∀j p,done.getD j false=true->ts[j]? =some p-> ∀k∈p.1,done.getD k false=true
section
variable{ts:List TS}{Ss:UL}
def SS.need(h:SS E G L ts Ss es done a w S σ){i:Nat}(hi:L[i]? =some o)(hun:done.getD i true=false)(hwait: ∀e∈o.after,Region.binds .any e=true->done.getD e.on false=true){needs:List NS}(A:uh G ts needs)(V:(needs.all fun n=>np L o i (n.at fun _=>nQ))=true):cm E.N S a (t8 needs σ):=by
 have hlt:i<done.size:=by rw [h.dsz];exact(pG.1 hi).1
 have hun' :done.getD i false=false:=by
  simp [hlt]at hun ⊢;exact hun
 refine⟨h.size,h.defers,?_⟩
 have key: ∀n∈needs,(n.ty σ).p S (a.tmps.getD n.slot undef):=by
  intro n hn
  have hs:=lY.1 V n hn
  have ho:=A.mem n hn
  unfold np NS.at at hs
  unfold Sd at ho
  cases hsrc:n.src with
  |some j=>
   rw [hsrc]at hs ho
   simp only [gM]at hs
   obtain⟨hs1,hs2⟩:=hs
   cases hj:L[j]? with
   |none=>rw [hj]at hs1;cases hs1
   |some p=>
    rw [hj]at hs1
    cases hd:p.dst with
    |none=>simp only [hd]at hs1;cases hs1
    |some d=>
     simp only [hd]at hs1
     have hd' :=nk hs1
     subst hd'
     have hdone:done.getD j false=true:=by
      unfold AB at hs2
      obtain⟨e,he0,H⟩:=A4.1 hs2
      have he:e∈o.after:=by simpa using he0
      simp only [gM]at H
      have:=hwait e he H.2
      rwa [nk H.1]at this
     have hm:=ho σ
     cases hf:ts[j]? with
     |none=>rw [hf]at hm;simp at hm
     |some f=>
      rw [hf]at hm
      have e:f.at σ=n.ty σ:=by simpa using hm
      rw [<-e]
      exact h.new j p n.slot f hj hdone hd hf
  |none=>
   rw [hsrc]at hs ho
   refine h.old _ _ (ho σ) fun j p hj hdone hd=>?_
   have:=lY.1 hs p (rb hj)
   simp only [hd,Nat.beq_refl,pi,wI]at this
   unfold AB at this
   obtain⟨e,he0,H⟩:=A4.1 this
   have he:e∈p.after:=by simpa using he0
   simp only [gM]at H
   have h3:=h.down j p hj hdone e he H.2
   rw [nk H.1]at h3
   rw [h3]at hun'
   cases hun'
 clear A V
 intro k t hk
 unfold t8 at hk
 induction needs with
 |nil=>simp [iG,look]at hk
 |cons n needs ih=>
  simp only [sn]at hk
  unfold iG look at hk
  by_cases H:Nat.beq n.slot k=true
  ·have hb' :Nat.beq (n.at σ).slot k=true:=H
   rw [hb']at hk
   have:=nk H
   subst this
   have h9:some (n.at σ).ty=some t:=by simpa using hk
   have e:n.ty σ=t:=nO h9
   rw [<-e]
   exact key n (ln ..)
  ·rw [zh]at H
   have hb' :Nat.beq (n.at σ).slot k=false:=H
   rw [hb']at hk
   exact ih (fun m hm=>key m (lH _ hm)) hk
def SS.step{σ' :Nat->OI}(h:SS E G L ts Ss es done a w S σ){i:Nat}{p0:TS}{C:Nat->Prop}(hi:L[i]? =some o)(hdN: ∀d,o.dst=some d->d<E.N.n)(hs2: ∀d,o.dst=some d-> ∀j p,L[j]? =some p->done.getD j false=true->p.dst=some d->i=j)(hwait: ∀e∈o.after,Region.binds .any e=true->done.getD e.on false=true)(M:ts[i]? =some p0)(hun:done.getD i true=false)(hdep: ∀k∈p0.1,k=i\/done.getD k false=true)(hext:je C w S w' S')(hC: ∀b,C b->E.base<=b\/E.B b)(hsat:kb w' S')(hown:cH E.base E.B w' S' (NQ Ss (D9 es (done.setIfInBounds i true)) σ'))(hσ: ∀k,k≠i->σ' k=σ k)(hv:(p0.at σ').p S' v):
  SS E G L ts Ss es (done.setIfInBounds i true) (a.put o.dst v) w' S' σ' :=by
 have hlt:i<done.size:=by rw [h.dsz];exact(pG.1 hi).1
 have hset: ∀j,(done.setIfInBounds i true).getD j false=true->j=i\/done.getD j false=true:=fun j hj=>by
  by_cases hij:i=j
  ·exact .inl hij.symm
  ·rw [tX false hij]at hj;exact .inr hj
 have hseti:(done.setIfInBounds i true).getD i false=true:=by simp [hlt]
 have hun' :done.getD i false=false:=by simp [hlt]at hun ⊢;exact hun
 have hput: ∀k,(∀d,o.dst=some d->d≠k)->(a.put o.dst v).tmps.getD k undef=a.tmps.getD k undef:=fun k hk=>by
  cases hd:o.dst with
  |none=>rfl
  |some d=>
   have hda:d<a.tmps.size:=by rw [h.size];exact hdN d hd
   rw [rl hda,bG (hk d hd)]
 refine⟨h.ext.step hext hC,hsat,hown,?_,?_,by simp [h.dsz],fun j p hj hdone e he H=>?_,fun k u hk hno=>?_,fun j p d' u hj hdone hd' hu=>?_,fun j u hj hu k hk=>?_⟩
 ·cases o.dst with
  |none=>exact h.size
  |some d=>simp [Act.put,h.size]
 ·cases o.dst with
  |none=>exact h.defers
  |some d=>exact h.defers
 ·rcases hset j hdone with rfl|hj'
  ·rw [hi]at hj
   have:o=p:=by simpa using hj
   subst this
   exact wa (hwait e he H)
  ·exact wa (h.down j p hj hj' e he H)
 ·rw [hput k fun d hd e=>hno i o hi hseti (by rw [hd,e])]
  exact u.mono hext.keep (h.old k u hk fun j p hj hdone=>hno j p hj (wa hdone))
 ·by_cases hij:j=i
  ·subst hij
   rw [hi]at hj
   have:o=p:=by simpa using hj
   subst this
   have hda:d' <a.tmps.size:=by rw [h.size];exact hdN d' hd'
   rw [hd',rl hda,bK rfl]
   rw [M]at hu
   have:p0=u:=by simpa using hu
   subst this
   exact hv
  ·have hj' :=(hset j hdone).resolve_left hij
   rw [hput d' fun d hd e=>by subst e;exact hij (hs2 d hd j p hj hj' hd').symm]
   have e1:u.at σ' =u.at σ:=congrArg u.2 (List.map_congr_left fun k hk=>hσ k fun e=>by
     subst e
     rw [h.deps j u hj' hu k hk]at hun';cases hun')
   rw [e1]
   exact Ty.mono _ hext.keep (h.new j p d' u hj hj' hd' hu)
 ·rcases hset j hj with rfl|hj'
  ·rw [M]at hu
   have:p0=u:=by simpa using hu
   subst this
   rcases hdep k hk with rfl|h'
   ·exact hseti
   ·exact wa h'
  ·exact wa (h.deps j u hj' hu k hk)
end
def G1{l t:List Oper}{ts:List TS}{Ss:UL}(hsl:uH E.N.n [] l=true)(hlen:ts.length=l.length)(hesl:es.length=l.length)(hd:DT E G (l++t) ts Ss es 0 l es)(M:wr (l++t) l.length t.length=true)(hQ: ∀a w S σ,St E (NQ Ss (Bm es) σ) (HF l (PY ts σ) G) a w S->wpListIn (fw E.r) 0 E.P (l++t).toArray aF t a w):
  ∀(fuel:Nat) (done:Array Bool) (a:Act) (w:World) (S:SH) (σ:Nat->OI),j5 done=fuel->(∀j,l.length<=j->done.getD j false=false)->SS E G (l++t) ts Ss es done a w S σ->wpAnyIn (fw E.r) 0 E.P .any (l++t).toArray aF fuel done a w:=by
 have hL1: ∀i o,i<l.length->(l++t)[i]? =some o->l[i]? =some o:=fun i o hi h=>by rwa [xP hi]at h
 have hL2: ∀i o,l[i]? =some o->(l++t)[i]? =some o:=fun i o h=>by rw [xP (pG.1 h).1];exact h
 have htail: ∀m o,l.length<=m->(l++t)[m]? =some o->tI (l++t) m=true/\d8 m o=true:=fun m o hm ho=>by
  have hml:m<(l++t).length:=(pG.1 ho).1
  rw [mY]at hml
  unfold wr at M
  have:=lY.1 M (m-l.length) (by simp;omega)
  rw [show l.length+(m-l.length)=m from by omega,ho]at this
  simp only [gM]at this
  exact⟨this.1,this.2.1⟩
 have hget:=fun i o (hi:l[i]? =some o)=>DT.get l es 0 hd i o hi
 have hedge: ∀i o,(l++t)[i]? =some o->d8 i o=true:=fun i o hi=>by
  rcases lI i l.length with h|h
  ·obtain⟨_,_,_,_,_,_,_,h,_⟩:=hget i o (hL1 i o h hi)
   simpa using h
  ·exact(htail i o h hi).2
 obtain⟨hs1,hs2⟩:=AF l [] hsl
 have fin: ∀fuel done a w S σ,j5 done=fuel->(∀j,l.length<=j->done.getD j false=false)->SS E G (l++t) ts Ss es done a w S σ->(∀i,i<l.length->done.getD i false=true)->wpAnyIn (fw E.r) 0 E.P .any (l++t).toArray aF fuel done a w:=by
  intro fuel done a w S σ hu hfree h hall
  have hdn:D9 es done=Bm es:=by
   unfold D9 Bm
   refine List.filter_congr fun k hk=>?_
   rw [hall k (by rw [<-hesl];exact List.mem_range.1 hk),Bool.and_true]
  have hown:=h.own
  rw [hdn]at hown
  refine wQ (n:=l.length) (fun m o hm ho=>(htail m o hm ho).1) hedge t l.length done fuel a w (eX _) (by simp) h.dsz (fun j hj=>⟨fun hjd=>?_,fun hlt=>hall j hlt⟩) hu
   (hQ a w S σ ⟨h.ext,h.sat,hown,h.size,h.defers,fun j u hj=>?_⟩)
  ·rcases lI j l.length with h' |h'
   ·exact h'
   ·rw [hfree j h']at hjd;cases hjd
  ·rcases EP l (PY ts σ) j u (by unfold PY;rw [BL];exact hlen) hj with⟨i,o,A,V,h3⟩|⟨A,V⟩
   ·unfold PY at h3
    rw [Ei]at h3
    cases hf:ts[i]? with
    |none=>rw [hf]at h3;simp at h3
    |some f=>
     rw [hf]at h3
     have e:f.at σ=u:=by simpa using h3
     rw [<-e]
     exact h.new i o j f (hL2 i o A) (hall i (pG.1 A).1) V hf
   ·refine h.old j u A fun i o ho hdn=>?_
    rcases lI i l.length with h' |h'
    ·exact V o (rb (hL1 i o h' ho))
    ·rw [hfree i h']at hdn;cases hdn
 have lower: ∀done a w S σ i,(∀j,l.length<=j->done.getD j false=false)->SS E G (l++t) ts Ss es done a w S σ->i∈Region.ready .any (l++t).toArray done->l.length<=i-> ∀j,j<l.length->done.getD j false=true:=by
  intro done a w S σ i hfree h hi hge j hj
  obtain⟨hun,p,hp,hwait⟩:=qv.1 hi
  have hp' :(l++t)[i]? =some p:=by simpa using hp
  have hcov:=(htail i p hge hp').1
  unfold tI at hcov
  have hre:=lY.1 hcov j (by simp;omega)
  exact fx h.down _ i j (fun q hq e he H=>by
   have:q=p:=by rw [hp']at hq;simpa using hq.symm
   subst this
   exact hwait e he H) hre
 intro fuel
 induction fuel with
 |zero=>
  intro done a w S σ hu hfree h
  exact fin 0 done a w S σ hu hfree h fun i hi=>rh hu (by rw [h.dsz,mY];omega)
 |succ fuel ih=>
  intro done a w S σ hu hfree h
  by_cases hall: ∀i,i<l.length->done.getD i false=true
  ·exact fin _ done a w S σ hu hfree h hall
  have hready0: ∀m i,i<m->i<l.length->Region.ready .any (l++t).toArray done=[]->done.getD i false=true:=by
   intro m
   induction m with
   |zero=>intro i h;omega
   |succ m ihm=>
    intro i him hil hr
    have his:i<done.size:=by rw [h.dsz,mY];omega
    by_cases hdn:done.getD i true=true
    ·rw [<-mL his];exact hdn
    ·exfalso
     obtain⟨o,ho⟩: ∃o,(l++t)[i]? =some o:=⟨l[i],hL2 i _ (kQ hil)⟩
     have hmem:i∈Region.ready .any (l++t).toArray done:=by
      rw [qv]
      refine⟨by simpa using hdn,o,by simpa using ho,fun e he H=>?_⟩
      have:=hedge i o ho
      unfold d8 at this
      have:=lY.1 this e (by simpa using he)
      simp only [H,pi,wI,ur]at this
      exact ihm e.on (by omega) (by omega) hr
     rw [hr]at hmem;cases hmem
  refine⟨fun hr=>absurd (fun i hi=>hready0 (i+1) i (by omega) hi hr) hall,fun i hi=>?_⟩
  have hil:i<l.length:=by
   rcases lI i l.length with h' |h'
   ·exact h'
   ·exact absurd (lower done a w S σ i hfree h hi h') hall
  obtain⟨hun,o,ho,hwait⟩:=qv.1 hi
  have ho' :(l++t)[i]? =some o:=by simpa using ho
  have hol:=hL1 i o hil ho'
  obtain⟨e,he,needs,u,A,V,h3,_,h4,h5⟩:=hget i o hol
  rw [ph]at A h3 h4
  have hF:=h.need ho' hun hwait V h3
  have his:i<done.size:=by rw [h.dsz,mY];omega
  have hun' :done.getD i false=false:=by rw [<-mL his];exact hun
  have hu' :j5 (done.setIfInBounds i true)=fuel:=by have:=oG hun;omega
  have huq: ∀d,o.dst=some d-> ∀j p,(l++t)[j]? =some p->done.getD j false=true->p.dst=some d->i=j:=fun d hdd j p hj hjd hpd=>by
   rcases lI j l.length with h' |h'
   ·exact hs2 i j o p d hol (hL1 j p h' hj) hdd hpd
   ·rw [hfree j h']at hjd;cases hjd
  have hfree' : ∀j,l.length<=j->(done.setIfInBounds i true).getD j false=false:=fun j hj=>by
   rw [tX false (by omega)];exact hfree j hj
  have hbl:E.base<=w.heap.size:=h.ext.size
  have hwaits: ∀q,(l++t)[i]? =some q-> ∀e∈q.after,Region.binds .any e=true->done.getD e.on false=true:=fun q hq e he H=>by
   have:q=o:=by rw [ho']at hq;simpa using hq.symm
   subst this
   exact hwait e he H
  have hdpp: ∀k∈u.1,k=i\/done.getD k false=true:=fun k hk=>by
   have:=lY.1 h4 k hk
   simp only [gM,ze]at this
   rcases this.2 with H|H
   ·exact .inl (nk H)
   ·exact .inr (fx h.down _ i k hwaits H)
  have hdNN: ∀d,o.dst=some d->d<E.N.n:=fun d hd=>(hs1 o (rb hol) d hd).1
  unfold wpOpIn
  rw [ho]
  show if _ then _ else _
  -- just these effects stand
  have hpos:WX (l++t) es i (D9 es done)=false:=by
   rw [GO]
   intro hno
   unfold WX at hno
   rw [ze]at hno
   rcases hno with hc|hc
   ·have:=(yq.1 (GX.1 hc)).2
    rw [this]at hun';cases hun'
   ·obtain⟨k,hk1,hk2⟩:=A4.1 hc
    have hke:es[k]? =some true:=by
     unfold Bm at hk1
     rw [List.mem_filter,List.mem_range]at hk1
     have h7:=hk1.2
     rw [kQ hk1.1]at h7 ⊢
     simpa using h7
    by_cases hin:(D9 es done).contains k=true
    ·rw [bK hin,ze]at hk2
     have hkd:=(yq.1 (GX.1 hin)).2
     rcases hk2 with H|H
     ·have:=fx h.down _ k i (fun q hq e he H=>h.down k q hq hkd e he H) H
      rw [this]at hun';cases hun'
     ·obtain⟨j,hj1,hj2⟩:=A4.1 H
      rw [gM,zj]at hj2
      have hje:es[j]? =some true:=by
       unfold Bm at hj1
       rw [List.mem_filter,List.mem_range]at hj1
       have h7:=hj1.2
       rw [kQ hj1.1]at h7 ⊢
       simpa using h7
      have hjd:=fx h.down _ k j (fun q hq e he H=>h.down k q hq hkd e he H) hj2.2
      have:=GX.2 (yq.2 ⟨hje,hjd⟩)
      rw [hj2.1]at this;cases this
    ·rw [bG hin]at hk2
     have hkd:=fx h.down _ i k hwaits hk2
     exact hin (GX.2 (yq.2 ⟨hke,hkd⟩))
  have hwin: ∀aas:List (List Nat),L5 (l++t) es i aas=true->D9 es done∈aas:=by
   intro aas hw
   unfold L5 at hw
   have:=lY.1 hw _ (Pv es done)
   rw [hpos,wI]at this
   obtain⟨b,hb1,hb2⟩:=A4.1 this
   rw [<-JX hb2];exact hb1
  cases e with
  |false=>
   simp only at h5
   obtain⟨hdS,aas,hw,h5⟩:=h5
   rw [ph]at hw
   obtain⟨d,hdd⟩:=Option.isSome_iff_exists.1 hdS
   have h6:=h5.mem _ (hwin aas hw) σ a w S h.sat h.own hF
   have hdq:=Nm (done:=done) he
   by_cases hw:Region.wanted o (yielded (l++t).toArray a.tmps)=true
   ·rw [bK hw]at h6 ⊢
    refine jS (fun a' w' ⟨v,S',ha,D,hs,hv⟩=>?_) h6
    subst ha
    exact ih _ _ _ S' _ hu' hfree' (h.step ho' hdNN huq hwait A hun hdpp D (fun _ H=>H.elim) hs (by rw [hdq];exact h.own.ext0 D) (fun _ _=>rfl) hv)
   ·rw [bG hw]at h6 ⊢
    exact⟨fun _ _=>trivial,ih _ _ _ S _ hu' hfree' (h.step ho' hdNN huq hwait A hun hdpp (je.refl rp _ _) (fun _ H=>H.elim) h.sat (by rw [hdq];exact h.own) (fun _ _=>rfl) h6)⟩
  |true=>
   simp only [ph]at h5
   obtain⟨aas,hw,hins,h5⟩:=h5
   obtain⟨p,hp1,hp2⟩:=xI.1 (hwin _ hw)
   have hp3:=JX (lY.1 hins p hp1)
   have h6:=h5.mem p hp1 σ a w S h.sat (by rw [hp2];exact h.own) hF hbl
   have hdq:D9 es (done.setIfInBounds i true)=p.2:=by rw [RW he his,<-hp2,hp3]
   by_cases hw:Region.wanted o (yielded (l++t).toArray a.tmps)=true
   ·rw [bK hw]at h6 ⊢
    refine jS (fun a' w' ⟨v,S',x,ha,D,hs,hown,hv⟩=>?_) h6
    subst ha
    exact ih _ _ _ S' _ hu' hfree' (h.step ho' hdNN huq hwait A hun hdpp D (fun b ⟨f,hf,H⟩=>(cH.mem h.own f (by rw [<-hp2];exact hf)).2 b H) hs (by rw [hdq];exact hown) (fun k hk=>FF σ x hk) hv)
   ·rw [bG hw]at h6 ⊢
    obtain⟨x,hown,hv⟩:=h6
    exact⟨fun _ _=>trivial,ih _ _ _ S _ hu' hfree' (h.step ho' hdNN huq hwait A hun hdpp (je.refl rp _ _) (fun _ H=>H.elim) h.sat (by rw [hdq];exact hown) (fun k hk=>FF σ x hk) hv)⟩
def IN{id:Nat}(m:Nat)(ts:List TS)(es:List Bool)(Ss:UL)(hO: ∀σ,NQ Ss [] σ=O)(hm:E.P.follows .mixedOrders=true)(hsl:uH E.N.n [] (L.take m)=true)(hlen:ts.length=(L.take m).length)(hesl:es.length=(L.take m).length)(M:wr L (L.take m).length (L.drop m).length=true)(hd:DT E G L ts Ss es 0 (L.take m) es)(k: ∀σ:Nat->OI,RG E L.toArray aF (L.drop m) (NQ Ss (Bm es) σ) (HF (L.take m) (PY ts σ) G)):CG E aF (.region id L.toArray true) O G:=fun a w S st=>by
 have hL:L=L.take m++L.drop m:=(rX m L).symm
 generalize L.take m=l at hL hsl hlen hesl M hd k
 generalize L.drop m=t at hL M k
 subst hL
 refine wpIn_region_any hm ?_
 obtain⟨he,hs⟩:=zd (w:=w) st.sat
 have hdn0:D9 es (Array.replicate (l++t).toArray.size false)=[]:=by
  unfold D9
  refine List.filter_eq_nil_iff.2 fun k hk=>?_
  simp [wM]
  intro _
  split<;>simp
 refine G1 hsl hlen hesl hd M (fun a w S σ st=>k σ a w S st) _ _ _ _ S (fun _=>nQ) ?_ (fun j _=>?_)
  ⟨st.ext.step0 he,hs,by rw [hdn0,hO];exact st.own.ext0 he,st.facts.size,st.facts.defers,by simp,fun j o hj hdone=>?_,fun k t hk _=>st.facts.at_ k t hk,fun j o d t hj hdone=>?_,fun j p hdone=>?_⟩
 ·unfold j5;rw [KC,Kx];simp
 ·simp [wM];split<;>rfl
 ·simp [wM]at hdone
  split at hdone<;>simp at hdone
 ·simp [wM]at hdone
  split at hdone<;>simp at hdone
 ·simp [wM]at hdone
  split at hdone<;>simp at hdone

def cH.perm(h:O.Perm O'):cH base B w S O->cH base B w S O' :=by
 induction h with
 |nil=>exact id
 |cons x p ih=>
  rintro⟨A,V,h3⟩
  exact⟨A,fun f hf=>V f (p.mem_iff.2 hf),ih h3⟩
 |swap x y l=>
  rintro⟨A,V,h3,h4,h5⟩
  refine⟨h3,fun f hf k hk hfk=>?_,A,fun f hf=>V f (lH _ hf),h5⟩
  rcases lK.1 hf with rfl|hf
  ·exact V x (ln ..) k hfk hk
  ·exact h4 f hf k hk hfk
 |trans _ _ ih1 ih2=>exact fun k=>ih2 (ih1 k)
def rm(O:List OE):List Nat->List OE
 |[]=>[]
 |i::l=>match O[i]? with
  |some e=>e::rm O l
  |none=>rm O l
def yo(O:List OE): ∀a b:List Nat,rm O (a++b)=rm O a++rm O b
 |[],_=>rfl
 |i::a,b=>by
  simp only [xN,rm]
  split<;>simp [yo O a b]
def Jp{a b:List Nat}(h:a.Perm b):(rm O a).Perm (rm O b):=by
 induction h with
 |nil=>exact .nil
 |cons x p ih=>
  simp only [rm]
  split
  ·exact .cons _ ih
  ·exact ih
 |swap x y l=>
  simp only [rm]
  cases D:O[x]? <;>cases hy:O[y]? <;>simp<;>exact .swap ..
 |trans _ _ ih1 ih2=>exact ih1.trans ih2
def HB(O:List OE):rm O (List.range O.length)=O:=by
 have key: ∀n,n<=O.length->rm O (List.range n)=O.take n:=by
  intro n
  induction n with
  |zero=>intro _;rfl
  |succ n ih=>
   intro h
   rw [List.range_succ,yo,ih (by omega)]
   simp only [rm]
   rw [kQ (by omega),KE (by omega)]
 rw [key _ (eX _),xU]
def cH.pick(l:List Nat)(hl:l.isPerm (List.range O.length)=true)(h:cH base B w S O):cH base B w S (rm O l):=
 h.perm (by
  have:=Jp (O:=O) (List.isPerm_iff.1 hl)
  rw [HB]at this
  exact this.symm)

section
section
variable{ty:TypeId}
end
def qa{ty:TypeId}{l:Option Nat}{o:Nat}(hm:jL mm r U l cap xs∈O)(hy:fE xs j=some y)(hp:aC E.N G p (tV (cK l o))):
  bM E O G ⟨dst,.nilCheck p,ty,pos,after,g⟩ (tV (cK l o)):=
 .of_pure fun a w S _ ho hF=>by
  have A:a.eval p=cK l o:=hp S a hF
  obtain⟨_,hy'⟩:=iu hy
  obtain⟨b,cur,rfl,_⟩:=n7 (ho.mem _ hm).1 hy'
  exact⟨cK (some b) o,by simp [execOp,A,cK,ak],rfl⟩
end
open Go.ChangeShapes Go.WideShapes Go.ChangeAt

variable{hb:Type}{W:World}{enc:TypeId×Value->hb}
section
def HN(W:World):SH:=fun b=>W.heap[b]?
def Tk(W:World)(hg: ∀p∈glob,∃c T fr,W.heap[p.1]? =some (.cells c T fr)/\c.toList.take p.2.length=p.2)(M: ∀w' :World,(∀(b:Nat) (o:Obj),W.heap[b]? =some o-> ∃o',w'.heap[b]? =some o' /\DO o o')->Mh w'):kb W (HN W):=⟨fun _ o h=>⟨o,h,sE o⟩,hg,M⟩
def ug(enc:TypeId×Value->hb)(P:Program)(W:World){α:Type}(t:TypeId)(r:Rp α):Prop:=
 P.cellsOf t=r.sz/\ ∀fuel cs x,DataW.trod enc P W 0 (fun _=>true) true fuel t cs=some x-> ∃y,r.rc (HN W) cs y
def NZ(h:P.underlying t=some .bool)(hc:P.cellsOf t=1):ug enc P W t rB:=⟨hc,fun fuel cs x D=>by
 cases fuel with
 |zero=>simp [DataW.trod]at D
 |succ n=>
  unfold DataW.trod at D
  rw [h]at D
  split at D
  all_goals try (injections;done)
  ·exact⟨_,rfl⟩⟩
def sG{α β:Type}{f:α->Option β}: ∀{l:List α} {r:List β},l.mapM f=some r->r.length=l.length/\ ∀(i:Nat) (x:α),l[i]? =some x-> ∃y,r[i]? =some y/\f x=some y
 |[],r,h=>by
  simp at h
  subst h
  exact⟨rfl,fun i x D=>by simp at D⟩
 |a::l,r,h=>by
  rw [List.mapM_cons]at h
  cases hf:f a with
  |none=>rw [hf]at h;simp at h
  |some b=>
   rw [hf]at h
   cases hm:l.mapM f with
   |none=>rw [hm]at h;simp at h
   |some r' =>
    rw [hm]at h
    simp at h
    subst h
    obtain⟨A,V⟩:=sG hm
    refine⟨by simp [A],fun i x D=>?_⟩
    cases i with
    |zero=>simp at D;subst D;exact⟨b,rfl,hf⟩
    |succ i=>exact V i x (by simpa using D)
def Ag{a:Addr}(h:W.cell? a=some v):a.spot=none/\ ∃c E fr,W.heap[a.block]? =some (.cells c E fr)/\c[a.off]? =some v:=by
 unfold World.cell? at h
 cases ho:W.heap[a.block]? with
 |none=>rw [ho]at h;cases h
 |some o=>
  rw [ho]at h
  cases o with
  |cells c E fr=>
   simp only at h
   by_cases hs:a.spot.isSome=true
   ·rw [bK hs]at h;cases h
   ·rw [bG hs]at h
    exact⟨by cases hq:a.spot with
     |none=>rfl
     |some s=>rw [hq]at hs;simp at hs,c,E,fr,rfl,h⟩
  |_=>simp at h
def Fg(a:Addr):a.add 0=a:=by unfold Addr.add;rfl
def Kc(h:W.cells? 0 ⟨b,off,none⟩ n=some cs)(hn:0<n): ∃c E fr,W.heap[b]? =some (.cells c E fr)/\cs=(c.toList.drop off).take n:=by
 unfold World.cells? at h
 rw [bK (jM _)]at h
 obtain⟨A,V⟩:=sG h
 obtain⟨v,_,hv⟩:=V 0 0 (by simp [hn])
 obtain⟨_,c,E,fr,h3,h4⟩:=Ag hv
 refine⟨c,E,fr,by simpa [Addr.add] using h3,?_⟩
 apply GR
 intro i
 have hl:cs.length=n:=by simpa using A
 by_cases hi:i<n
 ·obtain⟨v,h5,h6⟩:=V i i (by simp [hi])
  obtain⟨_,c',E',fr',h7,h8⟩:=Ag h6
  rw [gE]at h7 h8
  have h7' :W.heap[b]? =some (.cells c' E' fr'):=h7
  have h3' :W.heap[b]? =some (.cells c E fr):=by simpa [Addr.add] using h3
  rw [h3']at h7'
  injection h7' with h7'
  injection h7' with e1
  subst e1
  rw [h5,zk hi,ul]
  simpa using h8.symm
 ·rw [El (by omega),El (by simp;omega)]
def Mc{q:Rp α}{len:Nat}{a:Addr}{x:DataW hb×List MemPlace}(h0' :0<q.sz)(hq:ug enc P W e q)(D:(let elemAt (i:Nat):Option (DataW hb×List MemPlace):=(W.cells? 0 (a.add (i*P.cellsOf e)) (P.cellsOf e)).bind (DataW.trod enc P W 0 (fun _=>true) true n e)
   if 0<=a.block/\len<=cap/\cap<=maxLen then
    ((List.range len).mapM elemAt).bind fun elems=>
     (if(fun _=>true) a.block then(List.range (cap-len)).mapM fun j=>elemAt (len+j)else some []).map fun rest=>
      (DataW.slice (elems.map (·.1)) (rest.map (·.1)),MemPlace.row a ((elems.length+rest.length)*P.cellsOf e)++(elems++rest).flatMap (·.2))
   else none)=some x): ∃y,(eF q).rc (HN W) [.slice (some a) len cap] y:=by
 simp only at D
 split at D
 ·rename_i hcond
  obtain⟨_,hle,hmax⟩:=hcond
  cases hm:(List.range len).mapM (fun i=>(W.cells? 0 (a.add (i*P.cellsOf e)) (P.cellsOf e)).bind (DataW.trod enc P W 0 (fun _=>true) true n e))with
  |none=>rw [hm]at D;simp at D
  |some elems=>
   obtain⟨hm1,hm2⟩:=sG hm
   rw [hq.1]at hm2
   by_cases hl0:len=0
   ·subst hl0;exact⟨[],some a,cap,rfl,jM _,hmax,.inl rfl⟩
   have hsp0:a.spot=none:=by
    obtain⟨z,_,hz⟩:=hm2 0 0 (by rw [List.getElem?_range (by omega)])
    rw [Nat.zero_mul,Fg]at hz
    cases hcs:W.cells? 0 a q.sz with
    |none=>rw [hcs]at hz;simp at hz
    |some cs1=>
     unfold World.cells? at hcs
     rw [bK (jM _)]at hcs
     obtain⟨_,g2⟩:=sG hcs
     obtain⟨v,_,hv⟩:=g2 0 0 (by simp [h0'])
     rw [Fg]at hv
     exact(Ag hv).1
   have hcell: ∀i,i<len-> ∃c E fr,a.spot=none/\W.heap[a.block]? =some (.cells c E fr)/\ ∃y,q.rc (HN W) ((c.toList.drop (a.off+i*q.sz)).take q.sz) y:=by
    intro i hi
    obtain⟨z,_,hz⟩:=hm2 i i (by simp [hi])
    cases hcs:W.cells? 0 (a.add (i*q.sz)) q.sz with
    |none=>rw [hcs]at hz;simp at hz
    |some cs1=>
     rw [hcs]at hz
     have hsp:a.spot=none:=hsp0
     obtain⟨ab,ao,az⟩:=a
     simp only at hsp
     subst hsp
     rw [gE]at hcs
     obtain⟨c,E,fr,g1,g2⟩:=Kc hcs h0'
     obtain⟨y,hy⟩:=hq.2 n cs1 z hz
     exact⟨c,E,fr,rfl,g1,y,by rw [<-g2];exact hy⟩
   obtain⟨c,E,fr,hsp,H,_⟩:=hcell 0 (by omega)
   have key: ∀m,m<=len-> ∃ys:List α,ys.length=m/\pF q (HN W) ((c.toList.drop a.off).take (m*q.sz)) ys:=by
    intro m
    induction m with
    |zero=>intro _;exact⟨[],rfl,by simp [pF]⟩
    |succ m ih=>
     intro hm'
     obtain⟨ys,hy1,hy2⟩:=ih (by omega)
     obtain⟨c',E',fr',_,hb',y,hy⟩:=hcell m (by omega)
     rw [H]at hb'
     injection hb' with hb'
     injection hb' with e1
     subst e1
     refine⟨ys++[y],by simp [hy1],?_⟩
     have hsplit:(c.toList.drop a.off).take ((m+1)*q.sz)=(c.toList.drop a.off).take (m*q.sz)++(c.toList.drop (a.off+m*q.sz)).take q.sz:=by
      rw [v8,Nat.one_mul,List.take_add,sR]
     rw [hsplit]
     exact qF hy2 (Jn.2 hy)
   obtain⟨ys,hy1,hy2⟩:=key len (eX _)
   obtain⟨ab,ao,az⟩:=a
   simp only at hsp
   subst hsp
   exact⟨ys,some ⟨ab,ao,none⟩,cap,by rw [hy1],by omega,hmax,.inr ⟨ab,ao,c,E,fr,rfl,H,by rw [hy1];exact hy2⟩⟩
 ·cases D
def mE{q:Rp α}(h:P.underlying t=some (.slice e))(hc:P.cellsOf t=1)(h0:Nat.blt 0 q.sz=true)(hq:ug enc P W e q):ug enc P W t (eF q):=⟨hc,fun fuel cs x D=>by
 have h0' :0<q.sz:=by simpa [ur] using h0
 cases fuel with
 |zero=>simp [DataW.trod]at D
 |succ n=>
  unfold DataW.trod at D
  rw [h]at D
  split at D
  all_goals try (injections;done)
  ·exact⟨[],none,0,rfl,eX _,jM _,.inl rfl⟩
  ·rename_i e' a len cap heq
   injection heq with e1
   injection e1 with e1
   subst e1
   exact Mc h0' hq D⟩
def Sf(enc:TypeId×Value->hb)(P:Program)(W:World){α:Type}(off:Nat)(l:List (TypeId×Nat))(r:Rp α):Prop:=
 ∀(fuel:Nat) (cs:List Value),cs.length=off+r.sz->(∀f∈l,∃x,DataW.trod enc P W 0 (fun _=>true) true fuel f.1 ((cs.drop f.2).take (P.cellsOf f.1))=some x)-> ∃y,r.rc (HN W) (cs.drop off) y
def kA{t:Nat}(h:ug enc P W t r):Sf enc P W off [(t,off)] r:=fun fuel cs hl D=>by
 obtain⟨x,D⟩:=D _ (KD _)
 simp only at D
 rw [h.1,pJ (by simp;omega)]at D
 exact h.2 _ _ _ D
def dw{p:Rp α}{t off' :Nat}{l:List (TypeId×Nat)}(h:ug enc P W t p)(ho:off' =off+p.sz)(hr:Sf enc P W off' l q):Sf enc P W off ((t,off)::l) (bC p q):=fun fuel cs hl D=>by
 subst ho
 obtain⟨x,hx1⟩:=D _ (ln ..)
 simp only at hx1
 rw [h.1]at hx1
 obtain⟨y,hy⟩:=h.2 _ _ _ hx1
 obtain⟨z,hz⟩:=hr fuel cs (by rw [hl];show off+(p.sz+q.sz)=_;omega) fun f hf=>D f (lH _ hf)
 exact⟨(y,z),_,_,by rw [<-sR];exact(rX _ _).symm,hy,hz⟩
def gR{l:List (TypeId×Nat)}{p:Rp α}{f:β->α}(M:(P.underlying t).map (fun d=>match d with| .struct l=>(true,l.toList.map fun f=>(f.type,f.offset))|_=>(false,[]))=some (true,l))(hc:P.cellsOf t=p.sz)(hf: ∀y,∃x,f x=y)(hl:Sf enc P W 0 l p):ug enc P W t (iT p f):=⟨hc,fun fuel cs x D=>by
 obtain⟨fs,A,V⟩: ∃fs,P.underlying t=some (.struct fs)/\fs.toList.map (fun f=>(f.type,f.offset))=l:=by
  cases hu:P.underlying t with
  |none=>rw [hu]at M;cases M
  |some d=>
   rw [hu]at M
   cases d<;>simp at M
   exact⟨_,rfl,M⟩
 cases fuel with
 |zero=>simp [DataW.trod]at D
 |succ n=>
  unfold DataW.trod at D
  rw [A]at D
  change (if cs.length=P.cellsOf t then(fs.toList.mapM fun f=>DataW.trod enc P W 0 (fun _=>true) true n f.type ((cs.drop f.offset).take (P.cellsOf f.type))).map (fun xs=>(DataW.agg (xs.map (·.1)),xs.flatMap (·.2)))else none)=some x at D
  split at D
  ·rename_i hlen
   cases hm:fs.toList.mapM (fun f=>DataW.trod enc P W 0 (fun _=>true) true n f.type ((cs.drop f.offset).take (P.cellsOf f.type)))with
   |none=>rw [hm]at D;simp at D
   |some r=>
    obtain⟨_,hm2⟩:=sG hm
    obtain⟨y,hy⟩:=hl n cs (by rw [hlen,hc];omega) (fun g hg=>by
     rw [<-V,xI]at hg
     obtain⟨f0,hf0,rfl⟩:=hg
     obtain⟨i,hi⟩:=List.getElem?_of_mem hf0
     obtain⟨z,_,hz⟩:=hm2 i f0 hi
     exact⟨z,hz⟩)
    obtain⟨x',hx'⟩:=hf y
    refine⟨x',?_⟩
    show p.rc _ cs (f x')
    rw [hx']
    simpa using hy
  ·cases D⟩
def GB{W' :World}(h:je rp W S W' S'):Below W.heap.size W W' :=⟨h.os,h.tape,h.output,h.size,fun k hk=>h.heap k hk (fun h=>h)⟩
def wo(hl:laidOutB P=true){W W' :World}(H:Below W.heap.size W W'){sp:Nat->Bool}: ∀{ts:List TypeId} {vs:List Value} {ds:List (DataW hb)} {ps:List MemPlace},(∀t∈ts,P.readableRec t=true/\t<P.types.size)->
  DataW.TrodAll enc P W 0 (fun _=>true) true ts vs ds ps->(∀p∈ps,p.block<W.heap.size)->(∀p∈ps,sp p.block=true)->DataW.TrodAll enc P W' 0 sp true ts vs ds ps
 |[],[],[],_,_,h,_,_=>h
 |t::ts,v::vs,d::ds,_,hr,⟨p,q,A,V,e⟩,hlt,hsp=>by
  subst e
  have M:=hr t (ln ..)
  exact⟨p,q,WideElems.Trod_stays hl M.1 M.2 A (fun x D=>H.same (hlt x (BQ _ D))) (fun x D=>hsp x (BQ _ D)),
   wo hl H (fun t M=>hr t (lH _ M)) V (fun x D=>hlt x (Kw _ D)) (fun x D=>hsp x (Kw _ D)),rfl⟩
def OO{f:Func}{s:ChangeSpec}{apart fresh handsOn again:Bool}{W' :World}{args:Array Value}{ds gs:List (DataW hb)}{before:List MemPlace}{tb:TypeId}(hl:laidOutB P=true)(hr: ∀t∈f.params.toList,P.readableRec t=true/\t<P.types.size)(hvs:s.vars=[])(hres:f.resultTypes= #[tb])(htb:P.underlying tb=some .bool)(hW:DataW.Whole enc P f.params.toList s.vars apart W args.toList ds gs before)(hs:s.fn hb (ds++gs)={results:=[.lit (.bool true)],args:=ds})(H:Below W.heap.size W W'):
  s.post enc P f apart fresh handsOn again W args (.bool true) W' :=by
 have hW0:=hW
 have hlt:=hW.lt
 obtain⟨pa,pv,hA,hV,rfl,hz,hn⟩:=hW
 rw [hvs]at hV
 have hpv:pv=[]:=by
  cases gs with
  |nil=>exact hV
  |cons g gs=>exact hV.elim
 subst hpv
 have hlt' : ∀p∈pa,p.block<W.heap.size:=fun p hp=>hlt p (by simpa using hp)
 have hargs: ∀sp:Nat->Bool,(∀p∈pa,sp p.block=true)->DataW.TrodAll enc P W' 0 sp true f.params.toList args.toList ds pa:=fun sp hsp=>wo hl H hr hA hlt' hsp
 have hresT: ∀(b:Nat) (sp:Nat->Bool) (hd:Bool),DataW.TrodAll enc P W' b sp hd f.resultTypes.toList ((Value.bool true).resultList f.resultTypes.size) [.lit (.bool true)] []:=fun b sp hd=>by
  rw [hres]
  exact⟨[],[],⟨1,by simp [DataW.trod,htb,Value.cells]⟩,rfl,rfl⟩
 have hvT: ∀sp:Nat->Bool,DataW.TrodVars enc P W' sp s.vars (s.fn hb (ds++gs)).vars []:=fun sp=>by
  rw [hvs,hs];rfl
 have hargs' : ∀sp:Nat->Bool,(∀p∈pa,sp p.block=true)->DataW.TrodAll enc P W' 0 sp true f.params.toList args.toList (s.fn hb (ds++gs)).args pa:=fun sp hsp=>by rw [hs];exact hargs sp hsp
 have hres' : ∀(b:Nat) (sp:Nat->Bool) (hd:Bool),DataW.TrodAll enc P W' b sp hd f.resultTypes.toList ((Value.bool true).resultList f.resultTypes.size) (s.fn hb (ds++gs)).results []:=fun b sp hd=>by rw [hs];exact hresT b sp hd
 have hold: ∀p∈pa,(fun b=>decide (b<W.heap.size)) p.block=true:=fun p hp=>by simpa using hlt' p hp
 refine⟨ds,gs,pa++[],[],pa,[],hW0,hres' _ _ _,hargs' _ hold,hvT _,World.keptBut_mono (fun p hp=>⟨hp,?_⟩) (H.frame _),fun _=>?_⟩
 ·right;simpa using hp
 ·refine⟨?_,_,_,([]++pa)++[],⟨[]++pa,[],trodAll_append (hargs' _ (fun _ _=>rfl)) (hres' _ _ _),hvT _,rfl,?_,?_⟩,?_⟩
  ·intro j t r A V
   rw [hres]at A V
   cases j with
   |zero=>
    simp [Value.resultList]at A V
    subst A V
    simp [Value.okWide,htb,Cell.okWide,Cell.ok]
   |succ j=>simp at A
  ·intro b off hp
   have hp' :MemPlace.cell b off∈pa:=by simpa using hp
   have:=hlt' _ hp'
   rw [H.frozen (p:=⟨b,off,none⟩) this]
   exact hz b off (by simpa using hp')
  ·intro ha
   have:=hn ha
   simpa using this
  ·intro p hp _
   simpa using hp
end

section
def uQ{α:Type}(r:Rp α)(ok:α->Prop):Rp α where
 sz:=r.sz
 agg:=r.agg
 rc:=fun S cs x=>r.rc S cs x/\ok x
 mono:=fun h k=>⟨r.mono h k.1,k.2⟩
 len:=fun k=>r.len k.1
 one:=fun k=>r.one k.1
 sc:=r.sc
def Bj(k:IntKind)(n:Int):Prop:=k.min<=n/\n<=k.max
def BC(s:cB):Prop:=s.length<=maxLen
def Qc{α:Type}(ok:α->Prop)(xs:List α):Prop:=xs.length<=maxLen/\ ∀x∈xs,ok x
def Qb{α:Type}(_:α):Prop:=True
def Cd(h:P.underlying t=some (.int k))(hc:P.cellsOf t=1):ug enc P W t (uQ (rI k) (Bj k)):=⟨hc,fun fuel cs x D=>by
 cases fuel with
 |zero=>simp [DataW.trod]at D
 |succ n=>
  unfold DataW.trod at D
  rw [h]at D
  split at D
  all_goals try (injections;done)
  ·rename_i k1 k2 m heq
   injection heq with e
   injection e with e
   subst e
   split at D
   ·rename_i V
    obtain⟨rfl,h3⟩:=V
    simp only [Lit.wf,gM,il]at h3
    exact⟨m,rfl,h3⟩
   ·cases D⟩
def NY(h:P.underlying t=some .string)(hc:P.cellsOf t=1):ug enc P W t (uQ rS BC):=⟨hc,fun fuel cs x D=>by
 cases fuel with
 |zero=>simp [DataW.trod]at D
 |succ n=>
  unfold DataW.trod at D
  rw [h]at D
  split at D
  all_goals try (injections;done)
  ·rename_i s heq
   split at D
   ·rename_i V;exact⟨s.data.toList,rfl,(show s.data.toList.length<=maxLen from(show s.size=s.data.toList.length from rfl)▸V)⟩
   ·cases D⟩
def Md(h:P.underlying t=some .bool)(hc:P.cellsOf t=1):ug enc P W t (uQ rB Qb):=
 ⟨hc,fun fuel cs x D=>by obtain⟨y,hy⟩:=(NZ (enc:=enc) (W:=W) h hc).2 fuel cs x D;exact⟨y,hy,trivial⟩⟩
def Dx{α:Type}(r' r:Rp α)(ok:α->Prop):Prop:=r'.sz=r.sz/\r'.agg=r.agg/\ ∀S cs x,r'.rc S cs x->r.rc S cs x/\ok x
def iR:Dx (uQ r ok) r ok:=⟨rfl,rfl,fun _ _ _ h=>h⟩
def KT{α:Type}{r' r:Rp α}{ok:α->Prop}(h:Dx r' r ok){S:SH}: ∀{xs:List α} {cs:List Value},pF r' S cs xs->pF r S cs xs/\ ∀x∈xs,ok x
 |[],_,k=>⟨k,fun x D=>by cases D⟩
 |x::xs,_,⟨a,b,e,A,V⟩=>by
  obtain⟨g1,g2⟩:=h.2.2 _ _ _ A
  obtain⟨g3,g4⟩:=KT h V
  exact⟨⟨a,b,e,g1,g3⟩,fun y hy=>by
   rcases lK.1 hy with rfl|hy
   ·exact g2
   ·exact g4 y hy⟩
def s0{r' :Rp α}(h:Dx r' r ok):Dx (eF r') (eF r) (Qc ok):=⟨rfl,rfl,fun S cs xs ⟨a,cap,e,A,V,h3⟩=>by
 rcases h3 with h3|⟨b,off,c,E,fr,e1,e2,e3⟩
 ·exact⟨⟨a,cap,e,A,V,.inl h3⟩,by omega,fun x D=>by rw [h3]at D;cases D⟩
 ·rw [h.1]at e3
  obtain⟨g1,g2⟩:=KT h e3
  exact⟨⟨a,cap,e,A,V,.inr ⟨b,off,c,E,fr,e1,e2,g1⟩⟩,by omega,g2⟩⟩
def ee{p' p:Rp α}{q' :Rp β}{f:α->Prop}{g:β->Prop}(h:Dx p' p f)(k:Dx q' q g):Dx (bC p' q') (bC p q) (fun x=>f x.1/\g x.2):=
 ⟨by show p'.sz+q'.sz=p.sz+q.sz;rw [h.1,k.1],rfl,fun S cs x ⟨a,b,e,A,V⟩=>⟨⟨a,b,e,(h.2.2 _ _ _ A).1,(k.2.2 _ _ _ V).1⟩,(h.2.2 _ _ _ A).2,(k.2.2 _ _ _ V).2⟩⟩
def mF{p' p:Rp α}{f:β->α}(h:Dx p' p ok):Dx (iT p' f) (iT p f) (fun x=>ok (f x)):=
 ⟨h.1,rfl,fun S cs x k=>h.2.2 _ _ _ k⟩
def LL{r' :Rp α}(h:ug enc P W t r')(hr:Dx r' r ok)(hag:r.agg=true){d:DataW hb}{ps:List MemPlace}(hv:DataW.Trod enc P W 0 (fun _=>true) true t v d ps)(hc:v= .agg v.cells): ∃y,(K r y).p (HN W) v/\ok y:=by
 obtain⟨fuel,D⟩:=hv
 obtain⟨y,hy⟩:=h.2 _ _ _ D
 obtain⟨g1,g2⟩:=hr.2.2 _ _ _ hy
 exact⟨y,⟨_,by unfold Rp.val;rw [hag,bK rfl];exact hc,g1⟩,g2⟩
def yV{l:Array Field}(M:P.underlying t=some (.struct l))(hv:Value.okWide P W .any base t v):v= .agg v.cells:=by
 unfold Value.okWide at hv
 rw [M]at hv
 obtain⟨cs,e,_⟩:=hv
 rw [e]
 rfl
end

variable{Ds:List (DataW Unit)}
section
variable{held:Bool}
def SP(P:Program)(W:World)(held:Bool)(t:TypeId)(hx:DataW Unit)(cells:List Value):Prop:=
 P.cellsOf t=cells.length/\ ∀fuel cs x,DataW.trod (fun _=>()) P W 0 (fun _=>true) held fuel t cs=some x->x.1=hx->cs=cells
def FH{n:Int}(h:P.underlying t=some (.int k))(hc:P.cellsOf t=1):SP P W held t (.lit (.int k n)) [.int k n]:=⟨hc,fun fuel cs x D hD=>by
 obtain⟨m,A,V,_⟩:=DataW.trod_int h D
 subst V
 simp only [DataW.lit.injEq,Lit.int.injEq,true_and]at hD
 rw [A,hD]⟩
def ez{s:List UInt8}(h:P.underlying t=some .string)(hc:P.cellsOf t=1):SP P W held t (.lit (.string s)) [.string ⟨s.toArray⟩]:=⟨hc,fun fuel cs x D hD=>by
 obtain⟨m,A,V,_⟩:=DataW.trod_string h D
 subst V
 simp only [DataW.lit.injEq,Lit.string.injEq]at hD
 subst hD
 rw [A]⟩
def FC(P:Program)(W:World)(held:Bool)(off:Nat)(l:List (TypeId×Nat))(Ds:List (DataW Unit))(cells:List Value):Prop:=
 ∀(n:Nat) (cs:List Value),cs.length=off+cells.length->(∀(i:Nat) f,l[i]? =some f-> ∃x,DataW.trod (fun _=>()) P W 0 (fun _=>true) held n f.1 ((cs.drop f.2).take (P.cellsOf f.1))=some x/\Ds[i]? =some x.1)->cs.drop off=cells
def Dc:FC P W held off [] [] []:=fun n cs hl _=>su (by simp at hl;omega)
def dD{off' :Nat}{l:List (TypeId×Nat)}{hx:DataW Unit}{c:List Value}(h:SP P W held t hx c)(ho:off' =off+c.length)(k:FC P W held off' l Ds cells):FC P W held off ((t,off)::l) (hx::Ds) (c++cells):=fun n cs hl D=>by
 obtain⟨x,A,V⟩:=D 0 (t,off) rfl
 simp only [Em,Fu]at V
 have h3:=h.2 n _ x A V.symm
 have h4:=k n cs (by rw [hl,ho,mY];omega) fun i f hf=>by simpa using D (i+1) f (by simpa using hf)
 have e:cs.drop off=(cs.drop off).take (P.cellsOf t)++cs.drop off' :=by
  rw [ho,<-h.1,<-sR,rX]
 rw [e,h4]
 exact congrArg (· ++cells) h3
def wS{l:List (TypeId×Nat)}(M:(P.underlying t).map (fun d=>match d with| .struct l=>(true,l.toList.map fun f=>(f.type,f.offset))|_=>(false,[]))=some (true,l))(hc:P.cellsOf t=cells.length)(hf:FC P W held 0 l Ds cells):SP P W held t (.agg Ds) cells:=⟨hc,fun fuel cs x D hD=>by
 obtain⟨fs,A,V⟩: ∃fs,P.underlying t=some (.struct fs)/\fs.toList.map (fun f=>(f.type,f.offset))=l:=by
  cases hu:P.underlying t with
  |none=>rw [hu]at M;cases M
  |some d=>
   rw [hu]at M
   cases d<;>simp at M
   exact⟨_,rfl,M⟩
 obtain⟨xs,n,rfl,h3,h4,h5,h6⟩:=DataW.trod_struct A D
 rw [h3]at hD
 simp only [DataW.agg.injEq]at hD
 have:=hf n cs (by rw [h4,hc];omega) fun i f hi=>by
  rw [<-V,Ei]at hi
  obtain⟨f0,hf0,rfl⟩:=KB.1 hi
  have h7:=h6 i f0 (by simpa using hf0)
  have hlt:i<xs.length:=by
   have:=(pG.1 hf0).1
   rw [h5];simpa using this
  rw [kQ hlt]at h7
  exact⟨xs[i],h7,by rw [<-hD];simp [hlt]⟩
 rwa [sq]at this⟩
def KO{m:Nat}(M:P.underlying t=some (.array m e))(hc:P.cellsOf t=cells.length)(hf:FC P W held 0 ((List.range m).map fun i=>(e,i*P.cellsOf e)) Ds cells):SP P W held t (.agg Ds) cells:=⟨hc,fun fuel cs x D hD=>by
 obtain⟨xs,n,rfl,h3,h4,h5,h6⟩:=DataW.trod_array M D
 rw [h3]at hD
 simp only [DataW.agg.injEq]at hD
 have:=hf n cs (by rw [h4,hc];omega) fun i f hi=>by
  rw [Ei]at hi
  obtain⟨j,hj,rfl⟩:=KB.1 hi
  obtain⟨hlt,hj2⟩:=pG.1 hj
  simp at hlt hj2
  subst hj2
  have h7:=h6 i hlt
  have hlt' :i<xs.length:=by rw [h5];exact hlt
  rw [kQ hlt']at h7
  exact⟨xs[i],h7,by rw [<-hD];simp [hlt']⟩
 rwa [sq]at this⟩
def HP: ∀{L:List (String×DataW Unit)} {ps:List MemPlace},DataW.LaidVars P W L ps-> ∀n d,(n,d)∈L-> ∃g t cs fuel p,P.globalNamed n=some g/\(P.globals[g]?).map (·.type)=some t/\W.var? P n=some cs/\DataW.trod (fun _=>()) P W 0 (fun _=>true) false fuel t cs.toList=some (d,p)
 |(_,_)::_,_,⟨g,t,cs,fuel,p,_,A,V,h3,h4,_,_⟩,_,_,.head _=>⟨g,t,cs,fuel,p,A,V,h3,h4⟩
 |(_,_)::_,_,⟨_,_,_,_,_,_,_,_,_,_,h,_⟩,n,d,.tail _ hm=>HP h n d hm
def yC{L:List (String×DataW Unit)}(h:laidMet P L W){n:String}{d:DataW Unit}(hm:(n,d)∈L){g:Nat}(hg:P.globalNamed n=some g)(M:(P.globals[g]?).map (·.type)=some t)(hc:SP P W false t d cells):
  ∃c T fr,W.heap[g]? =some (.cells c T fr)/\c.toList.take cells.length=cells:=by
 obtain⟨ps,hL,_,_⟩:=h
 obtain⟨g',t',cs,fuel,p,A,V,h3,h4⟩:=HP hL n d hm
 obtain rfl:=nO (hg.symm.trans A)
 obtain rfl:=nO (M.symm.trans V)
 have h5:=hc.2 fuel _ _ h4 rfl
 unfold World.var? at h3
 rw [hg]at h3
 simp only [aX]at h3
 split at h3
 ·rename_i c T fr H
  cases h3
  exact⟨_,_,_,H,by rw [h5,xU]⟩
 ·cases h3
end

def Hx{α:Type}{r:Rp α}(hfree: ∀{S S' :SH} {cs:List Value} {x:α},r.rc S cs x->r.rc S' cs x){S S' :SH}: ∀{xs:List α} {cs:List Value},pF r S cs xs->pF r S' cs xs
 |[],_,h=>h
 |_::_,_,h=>by
  obtain⟨ds,es,A,V,h3⟩:=h
  exact⟨ds,es,A,hfree V,Hx hfree h3⟩
def WY{l:Option Nat}(h:wk mm r T l cap xs w S)(hs:kb w S): ∃S1,ot S S1/\kb w S1/\(K (eF r) xs).p S1 (Y l cap xs.length):=by
 cases mm with
 |true=>exact⟨S,SH.le_refl _,hs,kp h⟩
 |false=>
  obtain⟨cells,A,V,h3⟩:=h
  cases l with
  |none=>exact⟨S,SH.le_refl _,hs,kp (T:=T) ⟨cells,A,V,fun b H=>(by cases H)⟩⟩
  |some b=>
   obtain⟨cur,g1,g2,g3,g4,g5⟩:=A
   have hoo:DO (.cells cells.toArray T (0,0)) (.cells cur T (0,0)):=by
    refine⟨cur.toList.drop (xs.length*r.sz),?_⟩
    congr 1
    apply Array.ext'
    rw [<-g5,rX]
   have hn:S b=none:=h3 b rfl
   have hle:ot S (S.set b (.cells cells.toArray T (0,0))):=vW fun q hq=>(by rw [hn]at hq;cases hq)
   have hsat:kb w (S.set b (.cells cells.toArray T (0,0))):=hs.set g1 hoo fun q hq=>by rw [hn]at hq;cases hq
   refine⟨_,hle,hsat,kp (T:=T) ⟨cells,⟨cur,g1,g2,g3,g4,g5⟩,pr hle V,fun b' hb' =>?_⟩⟩
   have hb2:b=b' :=nO hb'
   subst hb2
   exact mB _ _ _
section
variable{ty:TypeId}
end

section
variable{ty:TypeId}
def hH(hag:r.agg=true)(hr: ∀S,r.rc S [v] y)(h:aC N G x (tV (.agg #[v]))):aC N G x (K r y):=fun S a hf=>⟨[v],by rw [Rp.val,bK hag];exact h S a hf,hr S⟩
end

section
variable{N:Nat}{w0:World}{S0:SH}{fn:Func}{ι:Type}{t:ι->Ty}{O2:ι->List OE}
end

section
variable{ty:TypeId}
end
section
variable{ty:TypeId}
end

def I{α:Sort _}{a:α}:a=a:=rfl
def J:True:=trivial
abbrev aW(x:Int):Ty:=K (rI .i64) x
abbrev lx(x:Bool):Ty:=K rB x
abbrev kO{α:Type}(l:List α):Ty:=K (rI .i64) (l.length:Int)
abbrev UF:Rp (List Int):=eF (rI .i64)
abbrev qq(l:List Int):Ty:=K (eF (rI .i64)) l
abbrev hM{α:Type}(r:Rp α)(l:List α):Ty:=K (eF r) l
abbrev rW{α:Type}(l:Option Nat)(c:Nat)(xs:List α):Ty:=tV (Y l c xs.length)
def bu: ∀{G' G:kP},G'.map (fun p=>look G p.1)=G'.map (fun p=>some p.2)->Mj G' G
 |[],_,_=>trivial
 |(_,_)::_,_,h=>⟨(xS h).1,bu (xS h).2⟩

section
variable{ty:TypeId}
def jr{x:Nat}{t:Ty}(h:look G x=some t):bM E O G ⟨dst,.move (.tmp x),ty,pos,after,g⟩ t:=bL (M h)
def DN{x:Nat}{t:Ty}(h:look G x=some t):bM E O G ⟨dst,.assign (.tmp x),ty,pos,after,g⟩ t:=ck (M h)
def zai{n:Int}:bM E O G ⟨dst,.assign (.const (.int k n)),ty,pos,after,g⟩ (K (rI k) n):=ck hI
def zab{b:Bool}:bM E O G ⟨dst,.assign (.const (.bool b)),ty,pos,after,g⟩ (K rB b):=ck hB
def sX{x:α}{p:Nat}(ti:TI E.P U sz bytes agg z)(hp:look G p=some (aU r x))(hs:(r.sz,r.agg)=(sz,agg)):
  bM E O G ⟨dst,.load U (.tmp p),ty,pos,after,g⟩ (K r x):=nc ti (ux hs).1 (ux hs).2 (M hp)
def wP{get:α->β}{x:α}{i:Nat}{p:Nat}(hf:aT E.P T i=some (off,sz))(hq:g9 r off q get)(hp:look G p=some (aU r x))(h0:(!(Nat.beq sz 0)&&Nat.ble (off+q.sz) r.sz)=true):bM E O G ⟨dst,.fieldAddr T (.tmp p) i,ty,pos,after,g⟩ (aU q (get x)):=
 jV hf (by cases h:Nat.beq sz 0<;>simp [h]at h0 ⊢) hq (by revert h0;cases Nat.ble (off+q.sz) r.sz<;>simp) (M hp)
def zln{x:Nat}(hu:E.P.underlying t=some (.slice e))(D:look G x=some (K (eF r) xs)):
  bM E O G ⟨dst,.call ⟨.builtin .len,#[.tmp x],#[t]⟩,ty,pos,after,g⟩ (K (rI .i64) (xs.length:Int)):=mh hu (M D)
def wd{x:Nat}{i:Nat}{t:Ty}(hi:ts[i]? =some t)(D:look G x=some (tT ts)):bM E O G ⟨dst,.extract (.tmp x) i,ty,pos,after,g⟩ t:=CH hi (M D)
def zbx{v:α}{x:Nat}(D:look G x=some (K r v)):bM E O G ⟨dst,.box T (.tmp x),ty,pos,after,g⟩ (aU r v):=Jx (M D)
def zpa{c x:Nat}{b q:Bool}(hc:look G c=some (K rB b))(D:look G x=some (nl b (K rB q))):bM E O G ⟨dst,.pick (.tmp c) (.tmp x) (.const (.bool false)),ty,pos,after,g⟩ (K rB (b&&q)):=kV (M hc) (fun H=>cC D H)
def zpo{c x:Nat}{b q:Bool}(hc:look G c=some (K rB b))(D:look G x=some (nl (!b) (K rB q))):bM E O G ⟨dst,.pick (.tmp c) (.const (.bool true)) (.tmp x),ty,pos,after,g⟩ (K rB (b||q)):=EH (M hc) (fun H=>cC D (rd H))
variable{xt yt:TypeId}{x y:Nat}{m n:Int}
def zlt(D:look G x=some (K (rI k) m))(hy:look G y=some (K (rI k) n)):bM E O G ⟨dst,.binOp .lss xt (.tmp x) (.tmp y) yt,ty,pos,after,g⟩ (K rB (decide (m<n))):=ir (M D) (M hy)
def zei{j:IntKind}(D:look G x=some (K (rI j) m)):bM E O G ⟨dst,.binOp .eql xt (.tmp x) (.const (.int j n)) yt,ty,pos,after,g⟩ (K rB (m==n)):=nd (M D) hI
def zni{j:IntKind}(D:look G x=some (K (rI j) m)):bM E O G ⟨dst,.binOp .neq xt (.tmp x) (.const (.int j n)) yt,ty,pos,after,g⟩ (K rB (m !=n)):=jh (M D) hI
def WQ{y:α}{x ix:Nat}{k:IntKind}{i:Int}(hu:E.P.underlying t=some (.slice e))(ti:TI E.P e sz bytes agg z)(hsz:r.sz=sz)(D:look G x=some (K (eF r) xs))(hi:look G ix=some (K (rI k) i))(hy:fE xs i=some y):
  bM E O G ⟨dst,.indexAddr t (.tmp x) (.tmp ix),ty,pos,after,g⟩ (aU r y):=ic hu ti hsz (M D) (M hi) hy
def WR{i:Nat}{x:Nat}{xt yt:TypeId}(hi:i<9223372036854775807)(D:look G x=some (K (rI .i64) (i:Int))):
  bM E O G ⟨dst,.binOp .add xt (.tmp x) (.const (.int .i64 1)) yt,ty,pos,after,g⟩ (K (rI .i64) ((i+1:Nat):Int)):=ta hi (M D) hI
def oy{i o:Nat}{p:Nat}(n:Nat)(hf:aT E.P T i=some (off,sz))(h0:Nat.beq sz 0=false)(hp:look G p=some (tV (ak b o)))(he:o+off=n):bM E O G ⟨dst,.fieldAddr T (.tmp p) i,ty,pos,after,g⟩ (tV (ak b n)):=se (n:=n) hf h0 (M hp) he
end
section
variable{l:List Oper}
def zo{ty:TypeId}{t:Ty}(hd:Nat.blt d E.N.n=true)(h:bM E O G ⟨some d,op,ty,pos,after,none⟩ t)(k:RG E ops aF l O ((d,t)::G)):
  RG E ops aF (⟨some d,op,ty,pos,after,none⟩::l) O G:=Fh h hd k
def te(n d:Nat)(r:Option Ty):Option Ty:=if Nat.blt d n then r else none
def cV{r:Option Ty}{t:Ty}(h:te n d r=some t):Nat.blt d n=true/\r=some t:=by
 unfold te at h;split at h
 case isTrue A=>exact⟨A,h⟩
 case isFalse=>cases h
def bo{x:Nat}{ty:TypeId}{t:Ty}(h:te E.N.n d (look G x)=some t)(k:RG E ops aF l O ((d,t)::G)):
  RG E ops aF (⟨some d,.move (.tmp x),ty,pos,after,none⟩::l) O G:=Fh (bL (M (cV h).2)) (cV h).1 k
def j3{x:Nat}{ty:TypeId}{t:Ty}(h:te E.N.n d (look G x)=some t)(k:RG E ops aF l O ((d,t)::G)):
  RG E ops aF (⟨some d,.assign (.tmp x),ty,pos,after,none⟩::l) O G:=Fh (ck (M (cV h).2)) (cV h).1 k
def bX{y:Code}(h:CG E aF y O G):RG E ops (Exit.then (y.wpIn (fw E.r) 0 E.P aF) aF) [] O G:=bR (aJ h)
def bl{id:Nat}{l:List Oper}{y:Code}(h:RG E l.toArray (Exit.then (y.wpIn (fw E.r) 0 E.P aF) aF) l O G):CG E aF (.seq (.region id l.toArray false) y) O G:=aN (bd h)
def sm{β:Type _}{X aa:Option β}{r:β}{c:Nat}{x y:Code}{b:Bool}(h:(if b=true then X else aa)=some r)(H:look G c=some (K rB b))(D:X=some r->CG E aF x O G)(hy:aa=some r->CG E aF y O G):CG E aF (.cond (.tmp c) x y) O G:=
 BK (M H) (fun hc=>D (ct h hc)) (fun hc=>hy (cf h hc))
def lW{y:Code}(h:CG E aF y O G):CG E (Exit.then (y.wpIn (fw E.r) 0 E.P aF) aF) .skip O G:=bT (aJ h)
def zgt{j gs:Nat}{b:Bool}{ty:TypeId}{t:Ty}(hj:(ops[j]?).bind (·.dst)=some gs)(hg:te E.N.n gs (te E.N.n d (look G gs))=some (K rB b))(h:b=true->bM E O G ⟨some d,op,ty,pos,after,some (j,true)⟩ t)(k:RG E ops aF l O ((d,nl b t)::G)):RG E ops aF (⟨some d,op,ty,pos,after,some (j,true)⟩::l) O G:=Sa hj (cV hg).1 (cV (cV hg).2).2 (cV (cV hg).2).1 h k
def zgf{j gs:Nat}{b:Bool}{ty:TypeId}{t:Ty}(hj:(ops[j]?).bind (·.dst)=some gs)(hg:te E.N.n gs (te E.N.n d (look G gs))=some (K rB b))(h:(!b)=true->bM E O G ⟨some d,op,ty,pos,after,some (j,false)⟩ t)(k:RG E ops aF l O ((d,nl (!b) t)::G)):RG E ops aF (⟨some d,op,ty,pos,after,some (j,false)⟩::l) O G:=Sb hj (cV hg).1 (cV (cV hg).2).2 (cV (cV hg).2).1 h k
end
def cL{α:Type _}{β:Type _}{x:Option α}{k:α->Option β}{r:β}{P:Prop}(h:x.bind k=some r)(f: ∀y,x=some y->k y=some r->P):P:=by
 obtain⟨y,A,V⟩:=bs h;exact f y A V
variable{u1:Ty}
section
variable{l:List Oper}{i:Nat}{t:Ty}
def GF{a b c:Bool}(h:(a&&b&&c)=true):a=true/\b=true/\c=true:=by revert h;cases a<;>cases b<;>cases c<;>simp
def WM{x:Option α}(h:x.isNone=true):x=none:=by cases x;rfl;cases h
def zd0(h:ts[i]? =some t)(k:bM E O [] o t)(H:(d8 i o&&o.guard.isNone)=true:=by exact rfl): ∃(needs:List Nd) (t:Ty),ts[i]? =some t/\pT G ts needs/\(needs.all (np l o i))=true/\d8 i o=true/\bn E O l.toArray (iG needs) o t:=
 ⟨[],t,h,trivial,rfl,(GL.1 H).1,aE (WM (GL.1 H).2) k⟩
def AA(a:Nat){u:Ty}(h:ts[i]? =some t)(hu:zb G ts ⟨a,u,none⟩)(k:bM E O [(a,u)] o t)(H:([(⟨a,u,none⟩:Nd)].all (np l o i)&&d8 i o&&o.guard.isNone)=true:=by exact rfl): ∃(needs:List Nd) (t:Ty),ts[i]? =some t/\pT G ts needs/\(needs.all (np l o i))=true/\d8 i o=true/\bn E O l.toArray (iG needs) o t:=
 ⟨[(⟨a,u,none⟩:Nd)],t,h,⟨hu,trivial⟩,(GF H).1,(GF H).2.1,aE (WM (GF H).2.2) k⟩
def ly(a:Nat)(j:Nat){u:Ty}(h:ts[i]? =some t)(hu:zb G ts ⟨a,u,(some j)⟩)(k:bM E O [(a,u)] o t)(H:([(⟨a,u,(some j)⟩:Nd)].all (np l o i)&&d8 i o&&o.guard.isNone)=true:=by exact rfl): ∃(needs:List Nd) (t:Ty),ts[i]? =some t/\pT G ts needs/\(needs.all (np l o i))=true/\d8 i o=true/\bn E O l.toArray (iG needs) o t:=
 ⟨[(⟨a,u,(some j)⟩:Nd)],t,h,⟨hu,trivial⟩,(GF H).1,(GF H).2.1,aE (WM (GF H).2.2) k⟩
def L4(a:Nat)(a1:Nat)(j1:Nat){u:Ty}(h:ts[i]? =some t)(hu:zb G ts ⟨a,u,none⟩)(hu1:zb G ts ⟨a1,u1,(some j1)⟩)(k:bn E O l.toArray [(a,u),(a1,u1)] o t)(H:([(⟨a,u,none⟩:Nd),⟨a1,u1,(some j1)⟩].all (np l o i)&&d8 i o)=true:=by exact rfl): ∃(needs:List Nd) (t:Ty),ts[i]? =some t/\pT G ts needs/\(needs.all (np l o i))=true/\d8 i o=true/\bn E O l.toArray (iG needs) o t:=
 ⟨[(⟨a,u,none⟩:Nd),⟨a1,u1,(some j1)⟩],t,h,⟨hu,hu1,trivial⟩,(GL.1 H).1,(GL.1 H).2,k⟩
def nP(a:Nat)(j:Nat)(a1:Nat)(j1:Nat){u:Ty}(h:ts[i]? =some t)(hu:zb G ts ⟨a,u,(some j)⟩)(hu1:zb G ts ⟨a1,u1,(some j1)⟩)(k:bM E O [(a,u),(a1,u1)] o t)(H:([(⟨a,u,(some j)⟩:Nd),⟨a1,u1,(some j1)⟩].all (np l o i)&&d8 i o&&o.guard.isNone)=true:=by exact rfl): ∃(needs:List Nd) (t:Ty),ts[i]? =some t/\pT G ts needs/\(needs.all (np l o i))=true/\d8 i o=true/\bn E O l.toArray (iG needs) o t:=
 ⟨[(⟨a,u,(some j)⟩:Nd),⟨a1,u1,(some j1)⟩],t,h,⟨hu,hu1,trivial⟩,(GF H).1,(GF H).2.1,aE (WM (GF H).2.2) k⟩
def A9(a:Nat)(j:Nat)(a1:Nat)(j1:Nat){u:Ty}(h:ts[i]? =some t)(hu:zb G ts ⟨a,u,(some j)⟩)(hu1:zb G ts ⟨a1,u1,(some j1)⟩)(k:bn E O l.toArray [(a,u),(a1,u1)] o t)(H:([(⟨a,u,(some j)⟩:Nd),⟨a1,u1,(some j1)⟩].all (np l o i)&&d8 i o)=true:=by exact rfl): ∃(needs:List Nd) (t:Ty),ts[i]? =some t/\pT G ts needs/\(needs.all (np l o i))=true/\d8 i o=true/\bn E O l.toArray (iG needs) o t:=
 ⟨[(⟨a,u,(some j)⟩:Nd),⟨a1,u1,(some j1)⟩],t,h,⟨hu,hu1,trivial⟩,(GL.1 H).1,(GL.1 H).2,k⟩
def Sh(a:Nat)(j:Nat)(a1:Nat)(j1:Nat)(a2:Nat)(j2:Nat){u:Ty}{u2:Ty}(h:ts[i]? =some t)(hu:zb G ts ⟨a,u,(some j)⟩)(hu1:zb G ts ⟨a1,u1,(some j1)⟩)(hu2:zb G ts ⟨a2,u2,(some j2)⟩)(k:bn E O l.toArray [(a,u),(a1,u1),(a2,u2)] o t)(H:([(⟨a,u,(some j)⟩:Nd),⟨a1,u1,(some j1)⟩,⟨a2,u2,(some j2)⟩].all (np l o i)&&d8 i o)=true:=by exact rfl): ∃(needs:List Nd) (t:Ty),ts[i]? =some t/\pT G ts needs/\(needs.all (np l o i))=true/\d8 i o=true/\bn E O l.toArray (iG needs) o t:=
 ⟨[(⟨a,u,(some j)⟩:Nd),⟨a1,u1,(some j1)⟩,⟨a2,u2,(some j2)⟩],t,h,⟨hu,hu1,hu2,trivial⟩,(GL.1 H).1,(GL.1 H).2,k⟩
end
end Go.Proofs.YthbdkceckjihgaaGreatDoor

