/- cW of this claim: W33, W34, W35, W36, W37, W38, W39, W40, W48, W50, W51, W41, W42, W43, W21, W27, W45, W46, W47, W52, W53, W56, W57. -/
import Derived.Test.YtbmmihfagmchaaaGreatRcV2
import Derived.Lib.Bytealg
import Derived.Maps.Range
import Derived.Laws.IdiomRangeMap
import Derived.Test.YtbmmihfagmchaaaGreatRcV1
import Derived.Laws.BytesString
import Derived.Below
import Derived.ProofKit
import Derived.OpenShut
import Derived.LaidMore
import Derived.Laws.Externs
set_option linter.all false
namespace Go.Proofs.YtbmmihfagmchaaaGreat
open Go

def ul(N:Nat):List Nat->List Oper->Bool
 |_,[]=>true
 |seen,o::rest=>match o.dst with
  |some d=>Nat.blt d N&& !(seen.any (Nat.beq d))&&ul N (d::seen) rest
  |none=>ul N seen rest
variable{N:Nat}{β:Type}{d j:Nat}{o:Oper}{p:Operand}{q:Rp β}
def yB(l:List Oper): ∀(seen:List Nat),ul N seen l=true->
  (∀o:Oper,o∈l-> ∀d,o.dst=some d->d<N/\d∉seen)/\ ∀(i j:Nat) (o p:Oper) (d:Nat),l[i]? =some o->l[j]? =some p->o.dst=some d->p.dst=some d->i=j:=by
 induction l with
 |nil=>exact fun _ _=>⟨fun _ h=>(by cases h),fun _ _ _ _ _ h=>(by simp at h)⟩
 |cons o l ih=>
  intro seen h
  unfold ul at h
  cases hd:o.dst with
  |none=>
   rw [hd]at h
   obtain⟨Y,J⟩:=ih seen h
   refine⟨fun q hq d hqd=>?_,fun i j p q d hi hj hp hq=>?_⟩
   ·rcases gB.1 hq with rfl|hq
    ·rw [hd]at hqd;cases hqd
    ·exact Y q hq d hqd
   ·cases i with
    |zero=>simp at hi;subst hi;rw [hd]at hp;cases hp
    |succ i=>
     cases j with
     |zero=>simp at hj;subst hj;rw [hd]at hq;cases hq
     |succ j=>rw [J i j p q d (by simpa using hi) (by simpa using hj) hp hq]
  |some d0=>
   rw [hd]at h
   simp only [jX,tM,yu]at h
   obtain⟨⟨g1,g2⟩,g3⟩:=h
   obtain⟨Y,J⟩:=ih (d0::seen) g3
   have hns:d0∉seen:=fun hm=>by
    have:seen.any (Nat.beq d0)=true:=vJ.2 ⟨d0,hm,Nat.beq_refl d0⟩
    rw [this]at g2;cases g2
   refine⟨fun q hq d hqd=>?_,fun i j p q d hi hj hp hq=>?_⟩
   ·rcases gB.1 hq with rfl|hq
    ·rw [hd]at hqd;cases hqd;exact⟨g1,hns⟩
    ·obtain⟨k1,k2⟩:=Y q hq d hqd
     exact⟨k1,fun hm=>k2 (nu _ hm)⟩
   ·cases i with
    |zero=>
     cases j with
     |zero=>rfl
     |succ j=>
      simp at hi;subst hi
      rw [hd]at hp;cases hp
      exact absurd (mp ..) (Y q (sm (by simpa using hj)) d0 hq).2
    |succ i=>
     cases j with
     |zero=>
      simp at hj;subst hj
      rw [hd]at hq;cases hq
      exact absurd (mp ..) (Y p (sm (by simpa using hi)) d0 hp).2
     |succ j=>rw [J i j p q d (by simpa using hi) (by simpa using hj) hp hq]
def Ee:List Oper->List Ty->jZ->jZ
 |o::l,t::ts,G=>match o.dst with
  |some d=>(d,t)::Ee l ts G
  |none=>Ee l ts G
 |_,_,G=>G
variable{G:jZ}{e:TypeId}{k:IntKind}{t:TypeId}{ts:List Ty}{u:Ty}
def B9(l:List Oper): ∀(ts:List Ty) (k:Nat) (t:Ty),ts.length=l.length->bM (Ee l ts G) k=some t->
  (∃(j:Nat) (o:Oper),l[j]? =some o/\o.dst=some k/\ts[j]? =some t)\/(bM G k=some t/\ ∀o:Oper,o∈l->o.dst≠some k):=by
 induction l with
 |nil=>
  intro ts k t hl h
  have:ts=[]:=vj (by simpa using hl)
  subst this
  exact .inr ⟨h,fun _ h=>(by cases h)⟩
 |cons o l ih=>
  intro ts k t hl h
  cases ts with
  |nil=>simp at hl
  |cons u ts=>
   unfold Ee at h
   have hl' :ts.length=l.length:=by simpa using hl
   have lift:((∃(j:Nat) (p:Oper),l[j]? =some p/\p.dst=some k/\ts[j]? =some t)\/(bM G k=some t/\ ∀p:Oper,p∈l->p.dst≠some k))->o.dst≠some k->
     (∃(j:Nat) (p:Oper),(o::l)[j]? =some p/\p.dst=some k/\(u::ts)[j]? =some t)\/(bM G k=some t/\ ∀p:Oper,p∈o::l->p.dst≠some k):=by
    rintro(⟨j,p,Y,J,Z⟩|⟨Y,J⟩) hne
    ·exact .inl ⟨j+1,p,by simpa using Y,J,by simpa using Z⟩
    ·exact .inr ⟨Y,fun p hp=>(gB.1 hp).elim (fun e=>by subst e;exact hne) (J p)⟩
   cases hd:o.dst with
   |none=>
    rw [hd]at h
    exact lift (ih ts k t hl' h) (by rw [hd];exact fun e=>by cases e)
   |some d=>
    rw [hd]at h
    simp only at h
    unfold bM at h
    by_cases V:Nat.beq d k=true
    ·rw [V]at h
     have:=nL V
     subst this
     have e:u=t:=by simpa using h
     subst e
     exact .inl ⟨0,o,rfl,hd,rfl⟩
    ·rw [wC]at V
     rw [V]at h
     refine lift (ih ts k t hl' h) ?_
     rw [hd]
     intro e
     have:d=k:=qa e
     subst this
     simp at V
abbrev TS:=List Nat×(List OI->Ty)
def TS.at(p:TS)(σ:Nat->OI):Ty:=p.2 (p.1.map σ)
def tc(t:Ty):TS:=([],fun _=>t)
def Je(Ss:List ((Nat->OI)->List OE))(c:Nat)(σ:Nat->OI):List OE:=match Ss[c]? with|some f=>f σ|none=>[]
structure NS where
 slot:Nat
 ty:(Nat->OI)->Ty
 src:Option Nat
def NS.at(n:NS)(σ:Nat->OI):Nd:=⟨n.slot,n.ty σ,n.src⟩
def Nn(G:jZ)(ts:List TS)(n:NS):Prop:=
 match n.src with
 |some j=> ∀σ,(ts[j]?).map (fun p=>p.at σ)=some (n.ty σ)
 |none=> ∀σ,bM G n.slot=some (n.ty σ)
def tL(G:jZ)(ts:List TS):List NS->Prop
 |[]=>True
 |n::l=>Nn G ts n/\tL G ts l
variable{n:Nat}
def tL.mem{ts:List TS}: ∀{l:List NS},tL G ts l-> ∀n∈l,Nn G ts n
 |_::_,⟨h,_⟩,_,.head _=>h
 |_::_,⟨_,h⟩,_,.tail _ hm=>tL.mem h _ hm
def tH(l:List NS)(σ:Nat->OI):jZ:=g9 (l.map (·.at σ))
def Lh(ts:List TS)(σ:Nat->OI):List Ty:=ts.map fun p=>p.at σ
def IJ(L:List Oper)(es:List Bool)(i:Nat)(p:TS):Bool:=p.1.all fun k=>(es[k]?).getD false&&(Nat.beq k i||lK L L.length i k)
def Og(L:List Oper)(es:List Bool)(i lo hi:Nat):Bool:=
 Nat.ble lo (fX es es.length)&&(List.range es.length).all fun k=> !((es[k]?).getD false)||((Nat.ble lo (fX es k)||lK L L.length i k)&&(Nat.blt (fX es k) hi||lK L L.length k i))
def DS(E:En)(G:jZ)(L:List Oper)(ts:List TS)(Ss:List ((Nat->OI)->List OE))(es0:List Bool):Nat->Nat->List Oper->List Bool->Prop
 |_,_,[],_=>True
 |i,c,o::rest,false::es=>(∃(needs:List NS) (t:TS) (lo hi:Nat),ts[i]? =some t/\tL G ts needs/\(needs.all fun n=>lQ L o i (n.at fun _=>qt))=true/\dF i o=true/\IJ L es0 i t=true/\Og L es0 i lo hi=true/\o.dst.isSome=true/\
   ∀c σ,lo<=c->c<=hi->bQ E (Je Ss c σ) L.toArray (tH needs σ) o (t.at σ))/\DS E G L ts Ss es0 (i+1) c rest es
 |i,c,o::rest,true::es=>(∃(needs:List NS) (t:TS),ts[i]? =some t/\tL G ts needs/\(needs.all fun n=>lQ L o i (n.at fun _=>qt))=true/\dF i o=true/\IJ L es0 i t=true/\
   ∀σ,mn E L.toArray (Je Ss c σ) (tH needs σ) o (fun x=>Je Ss (c+1) (Fu σ i x)) (fun x=>t.at (Fu σ i x)))/\DS E G L ts Ss es0 (i+1) (c+1) rest es
 |_,_,_::_,[]=>False
variable{E:En}{L:List Oper}{Ss:List ((Nat->OI)->List OE)}{α:Type}{c:Code}{es:List Bool}{lo:Int}{r:Rp α}{x:Operand}{σ:Nat->OI}
def DS.get{ts:List TS}{es0:List Bool}: ∀(r:List Oper) (es:List Bool) (k c:Nat),DS E G L ts Ss es0 k c r es-> ∀(j:Nat) (o:Oper),r[j]? =some o->
    ∃e,es[j]? =some e/\ ∃(needs:List NS) (t:TS),ts[k+j]? =some t/\tL G ts needs/\(needs.all fun n=>lQ L o (k+j) (n.at fun _=>qt))=true/\dF (k+j) o=true/\IJ L es0 (k+j) t=true/\
      (match e with
       |false=>o.dst.isSome=true/\ ∃lo hi,Og L es0 (k+j) lo hi=true/\ ∀c σ,lo<=c->c<=hi->bQ E (Je Ss c σ) L.toArray (tH needs σ) o (t.at σ)
       |true=> ∀σ,mn E L.toArray (Je Ss (c+fX es j) σ) (tH needs σ) o (fun x=>Je Ss (c+fX es j+1) (Fu σ (k+j) x)) (fun x=>t.at (Fu σ (k+j) x))):=by
  intro r
  induction r with
  |nil=>intro es k c _ j o h;simp at h
  |cons p r ih=>
    intro es k c h j o ho
    cases es with
    |nil=>exact h.elim
    |cons e es=>
      cases e with
      |false=>
        obtain⟨⟨needs,t,lo,hi,g1,g2,g3,g4,g5,g6,g7,g8⟩,J⟩:=h
        cases j with
        |zero=>
          simp at ho;subst ho
          exact⟨false,rfl,needs,t,g1,g2,g3,g4,g5,g7,lo,hi,g6,g8⟩
        |succ j=>
          obtain⟨e',g1,g2⟩:=ih es (k+1) _ J j o (by simpa using ho)
          refine⟨e',by simpa using g1,?_⟩
          rw [show k+1+j=k+(j+1)from by omega]at g2
          have e1:c+fX (false::es) (j+1)=c+fX es j:=by simp [fX]
          rw [e1];exact g2
      |true=>
        obtain⟨Y,J⟩:=h
        cases j with
        |zero=>
          simp at ho;subst ho
          exact⟨true,rfl,Y⟩
        |succ j=>
          obtain⟨e',g1,g2⟩:=ih es (k+1) _ J j o (by simpa using ho)
          refine⟨e',by simpa using g1,?_⟩
          rw [show k+1+j=k+(j+1)from by omega]at g2
          have e1:c+fX (true::es) (j+1)=c+1+fX es j:=by simp [fX];omega
          rw [e1];exact g2
structure NV(E:En)(G:jZ)(l:List Oper)(ts:List TS)(Ss:List ((Nat->OI)->List OE))(es:List Bool)(done:Array Bool)(a:Act)(w:World)(S:SH)(σ:Nat->OI)(c:Nat):Prop where
 ext:gU E.B E.w0 E.S0 w S
 sat:jA w S
 own:dg E.base E.B w S (Je Ss c σ)
 size:a.tmps.size=E.N.n
 defers:a.defers=E.N.ds
 dsz:done.size=l.length
 down: ∀j o,l[j]? =some o->done.getD j false=true-> ∀e∈o.after,Region.binds .any e=true->done.getD e.on false=true
 old: ∀k t,bM G k=some t->(∀j o,l[j]? =some o->done.getD j false=true->o.dst≠some k)->t.p S (a.tmps.getD k undef)
 new: ∀j o d p,l[j]? =some o->done.getD j false=true->o.dst=some d->ts[j]? =some p->(p.at σ).p S (a.tmps.getD d undef)
 deps: ∀j p,done.getD j false=true->ts[j]? =some p-> ∀k∈p.1,done.getD k false=true
 chain: ∀k,es[k]? =some true->(done.getD k false=true↔fX es k<c)
variable{S S' :SH}{a:Act}{b:Nat}{done:Array Bool}{f:FuncId}{κ:Type}{m:List (κ×β)}{v:Value}{w w' :World}
section
variable{ts:List TS}
def NV.need{c:Nat}(h:NV E G L ts Ss es done a w S σ c){i:Nat}(hi:L[i]? =some o)(hun:done.getD i true=false)(hwait: ∀e∈o.after,Region.binds .any e=true->done.getD e.on false=true){needs:List NS}(Y:tL G ts needs)(J:(needs.all fun n=>lQ L o i (n.at fun _=>qt))=true):cW E.N S a (tH needs σ):=by
 have hlt:i<done.size:=by rw [h.dsz];exact(qr.1 hi).1
 have hun' :done.getD i false=false:=by
  simp [hlt]at hun ⊢;exact hun
 refine⟨h.size,h.defers,?_⟩
 have key: ∀n∈needs,(n.ty σ).p S (a.tmps.getD n.slot undef):=by
  intro n hn
  have hs:=jV.1 J n hn
  have ho:=Y.mem n hn
  unfold lQ NS.at at hs
  unfold Nn at ho
  cases hsrc:n.src with
  |some j=>
   rw [hsrc]at hs ho
   simp only [jX]at hs
   obtain⟨hs1,hs2⟩:=hs
   cases hj:L[j]? with
   |none=>rw [hj]at hs1;cases hs1
   |some p=>
    rw [hj]at hs1
    cases hd:p.dst with
    |none=>simp only [hd]at hs1;cases hs1
    |some d=>
     simp only [hd]at hs1
     have hd' :=nL hs1
     subst hd'
     have hdone:done.getD j false=true:=by
      unfold yz at hs2
      obtain⟨e,he0,V⟩:=vJ.1 hs2
      have he:e∈o.after:=by simpa using he0
      simp only [jX]at V
      have:=hwait e he V.2
      rwa [nL V.1]at this
     have hm:=ho σ
     cases X:ts[j]? with
     |none=>rw [X]at hm;simp at hm
     |some f=>
      rw [X]at hm
      have e:f.at σ=n.ty σ:=by simpa using hm
      rw [<-e]
      exact h.new j p n.slot f hj hdone hd X
  |none=>
   rw [hsrc]at hs ho
   refine h.old _ _ (ho σ) fun j p hj hdone hd=>?_
   have:=jV.1 hs p (sm hj)
   simp only [hd,Nat.beq_refl,mq,ug]at this
   unfold yz at this
   obtain⟨e,he0,V⟩:=vJ.1 this
   have he:e∈p.after:=by simpa using he0
   simp only [jX]at V
   have Z:=h.down j p hj hdone e he V.2
   rw [nL V.1]at Z
   rw [Z]at hun'
   cases hun'
 clear Y J
 intro k t hk
 unfold tH at hk
 induction needs with
 |nil=>simp [g9,bM]at hk
 |cons n needs ih=>
  simp only [py]at hk
  unfold g9 bM at hk
  by_cases V:Nat.beq n.slot k=true
  ·have hb' :Nat.beq (n.at σ).slot k=true:=V
   rw [hb']at hk
   have:=nL V
   subst this
   have h9:some (n.at σ).ty=some t:=by simpa using hk
   have e:n.ty σ=t:=qa h9
   rw [<-e]
   exact key n (mp ..)
  ·rw [wC]at V
   have hb' :Nat.beq (n.at σ).slot k=false:=V
   rw [hb']at hk
   exact ih (fun m hm=>key m (nu _ hm)) hk
def NV.step{σ' :Nat->OI}{c c' :Nat}(h:NV E G L ts Ss es done a w S σ c){i:Nat}{p0:TS}{C:Nat->Prop}(hi:L[i]? =some o)(hdN: ∀d,o.dst=some d->d<E.N.n)(hs2: ∀d,o.dst=some d-> ∀j p,L[j]? =some p->done.getD j false=true->p.dst=some d->i=j)(hwait: ∀e∈o.after,Region.binds .any e=true->done.getD e.on false=true)(D:ts[i]? =some p0)(hun:done.getD i true=false)(hdep: ∀k∈p0.1,k=i\/done.getD k false=true)(hext:gU C w S w' S')(hC: ∀b,C b->E.base<=b\/E.B b)(hsat:jA w' S')(hown:dg E.base E.B w' S' (Je Ss c' σ'))(hσ: ∀k,k≠i->σ' k=σ k)(hv:(p0.at σ').p S' v)(hch: ∀k,es[k]? =some true->((done.setIfInBounds i true).getD k false=true↔fX es k<c')):
  NV E G L ts Ss es (done.setIfInBounds i true) (a.put o.dst v) w' S' σ' c' :=by
 have hlt:i<done.size:=by rw [h.dsz];exact(qr.1 hi).1
 have hset: ∀j,(done.setIfInBounds i true).getD j false=true->j=i\/done.getD j false=true:=fun j hj=>by
  by_cases hij:i=j
  ·exact .inl hij.symm
  ·rw [sv false hij]at hj;exact .inr hj
 have hseti:(done.setIfInBounds i true).getD i false=true:=by simp [hlt]
 have hun' :done.getD i false=false:=by simp [hlt]at hun ⊢;exact hun
 have hput: ∀k,(∀d,o.dst=some d->d≠k)->(a.put o.dst v).tmps.getD k undef=a.tmps.getD k undef:=fun k hk=>by
  cases hd:o.dst with
  |none=>rfl
  |some d=>
   have hda:d<a.tmps.size:=by rw [h.size];exact hdN d hd
   rw [pl hda,bn (hk d hd)]
 refine⟨h.ext.step hext hC,hsat,hown,?_,?_,by simp [h.dsz],fun j p hj hdone e he V=>?_,fun k u hk hno=>?_,fun j p d' u hj hdone hd' hu=>?_,fun j u hj hu k hk=>?_,hch⟩
 ·cases o.dst with
  |none=>exact h.size
  |some d=>simp [Act.put,h.size]
 ·cases o.dst with
  |none=>exact h.defers
  |some d=>exact h.defers
 ·rcases hset j hdone with rfl|hj'
  ·rw [hi]at hj
   have:o=p:=by simpa using hj
   subst this
   exact sX (hwait e he V)
  ·exact sX (h.down j p hj hj' e he V)
 ·rw [hput k fun d hd e=>hno i o hi hseti (by rw [hd,e])]
  exact u.mono hext.keep (h.old k u hk fun j p hj hdone=>hno j p hj (sX hdone))
 ·by_cases hij:j=i
  ·subst hij
   rw [hi]at hj
   have:o=p:=by simpa using hj
   subst this
   have hda:d' <a.tmps.size:=by rw [h.size];exact hdN d' hd'
   rw [hd',pl hda,bE rfl]
   rw [D]at hu
   have:p0=u:=by simpa using hu
   subst this
   exact hv
  ·have hj' :=(hset j hdone).resolve_left hij
   rw [hput d' fun d hd e=>by subst e;exact hij (hs2 d hd j p hj hj' hd').symm]
   have e1:u.at σ' =u.at σ:=congrArg u.2 (Bn fun k hk=>hσ k fun e=>by
     subst e
     rw [h.deps j u hj' hu k hk]at hun';cases hun')
   rw [e1]
   exact Ty.mono _ hext.keep (h.new j p d' u hj hj' hd' hu)
 ·rcases hset j hj with rfl|hj'
  ·rw [D]at hu
   have:p0=u:=by simpa using hu
   subst this
   rcases hdep k hk with rfl|h'
   ·exact hseti
   ·exact sX h'
  ·exact sX (h.deps j u hj' hu k hk)
end
variable{Q:Exit->Act->World->Prop}
def DM{l t:List Oper}{ts:List TS}(hsl:ul E.N.n [] l=true)(hlen:ts.length=l.length)(hesl:es.length=l.length)(hd:DS E G (l++t) ts Ss es 0 0 l es)(hch:GI (l++t) es=true)(D:vx (l++t) l.length t.length=true)(hQ: ∀a w S σ,St E (Je Ss (fX es es.length) σ) (Ee l (Lh ts σ) G) a w S->wpListIn (fw E.r) 0 E.P (l++t).toArray Q t a w):
  ∀(fuel:Nat) (done:Array Bool) (a:Act) (w:World) (S:SH) (σ:Nat->OI) (c:Nat),jP done=fuel->(∀j,l.length<=j->done.getD j false=false)->c<=fX es es.length->NV E G (l++t) ts Ss es done a w S σ c->wpAnyIn (fw E.r) 0 E.P .any (l++t).toArray Q fuel done a w:=by
 have hL1: ∀i o,i<l.length->(l++t)[i]? =some o->l[i]? =some o:=fun i o hi h=>by rwa [vi hi]at h
 have hL2: ∀i o,l[i]? =some o->(l++t)[i]? =some o:=fun i o h=>by rw [vi (qr.1 h).1];exact h
 have htail: ∀m o,l.length<=m->(l++t)[m]? =some o->tt (l++t) m=true/\dF m o=true:=fun m o hm ho=>by
  have hml:m<(l++t).length:=(qr.1 ho).1
  rw [jO]at hml
  unfold vx at D
  have:=jV.1 D (m-l.length) (by simp;omega)
  rw [show l.length+(m-l.length)=m from by omega,ho]at this
  simp only [jX]at this
  exact⟨this.1,this.2.1⟩
 have hget:=fun i o (hi:l[i]? =some o)=>DS.get l es 0 0 hd i o hi
 have hedge: ∀i o,(l++t)[i]? =some o->dF i o=true:=fun i o hi=>by
  rcases lz i l.length with h|h
  ·obtain⟨_,_,_,_,_,_,_,h,_⟩:=hget i o (hL1 i o h hi)
   simpa using h
  ·exact(htail i o h hi).2
 obtain⟨hs1,hs2⟩:=yB l [] hsl
 have fin: ∀fuel done a w S σ c,jP done=fuel->(∀j,l.length<=j->done.getD j false=false)->c<=fX es es.length->NV E G (l++t) ts Ss es done a w S σ c->(∀i,i<l.length->done.getD i false=true)->wpAnyIn (fw E.r) 0 E.P .any (l++t).toArray Q fuel done a w:=by
  intro fuel done a w S σ c hu hfree hcle h hall
  have hcc:c=fX es es.length:=by
   rcases lz c (fX es es.length)with hlt|hge
   ·obtain⟨i,Y,J,Z⟩:=tw hlt
    have:=(h.chain i J).1 (hall i (by omega))
    omega
   ·omega
  subst hcc
  refine vQ (n:=l.length) (fun m o hm ho=>(htail m o hm ho).1) hedge t l.length done fuel a w (dr _) (by simp) h.dsz (fun j hj=>⟨fun hjd=>?_,fun hlt=>hall j hlt⟩) hu
   (hQ a w S σ ⟨h.ext,h.sat,h.own,h.size,h.defers,fun j u hj=>?_⟩)
  ·rcases lz j l.length with h' |h'
   ·exact h'
   ·rw [hfree j h']at hjd;cases hjd
  ·rcases B9 l (Lh ts σ) j u (by unfold Lh;rw [zp];exact hlen) hj with⟨i,o,Y,J,Z⟩|⟨Y,J⟩
   ·unfold Lh at Z
    rw [yw]at Z
    cases X:ts[i]? with
    |none=>rw [X]at Z;simp at Z
    |some f=>
     rw [X]at Z
     have e:f.at σ=u:=by simpa using Z
     rw [<-e]
     exact h.new i o j f (hL2 i o Y) (hall i (qr.1 Y).1) J X
   ·refine h.old j u Y fun i o ho hdn=>?_
    rcases lz i l.length with h' |h'
    ·exact J o (sm (hL1 i o h' ho))
    ·rw [hfree i h']at hdn;cases hdn
 have lower: ∀done a w S σ c i,(∀j,l.length<=j->done.getD j false=false)->NV E G (l++t) ts Ss es done a w S σ c->i∈Region.ready .any (l++t).toArray done->l.length<=i-> ∀j,j<l.length->done.getD j false=true:=by
  intro done a w S σ c i hfree h hi hge j hj
  obtain⟨hun,p,hp,hwait⟩:=qD.1 hi
  have hp' :(l++t)[i]? =some p:=by simpa using hp
  have hcov:=(htail i p hge hp').1
  unfold tt at hcov
  have hre:=jV.1 hcov j (by simp;omega)
  exact fH h.down _ i j (fun q hq e he V=>by
   have:q=p:=by rw [hp']at hq;simpa using hq.symm
   subst this
   exact hwait e he V) hre
 have hchain: ∀i j,j<i->es[i]? =some true->es[j]? =some true->lK (l++t) (l++t).length i j=true:=fun i j hij Y J=>by
  unfold GI at hch
  have hil:i<es.length:=(qr.1 Y).1
  have:=jV.1 (jV.1 hch i (by simpa using hil)) j (by simpa using hij)
  rw [Y,J]at this
  simpa using this
 intro fuel
 induction fuel with
 |zero=>
  intro done a w S σ c hu hfree hcle h
  exact fin 0 done a w S σ c hu hfree hcle h fun i hi=>rl hu (by rw [h.dsz,jO];omega)
 |succ fuel ih=>
  intro done a w S σ c hu hfree hcle h
  by_cases hall: ∀i,i<l.length->done.getD i false=true
  ·exact fin _ done a w S σ c hu hfree hcle h hall
  have hready0: ∀m i,i<m->i<l.length->Region.ready .any (l++t).toArray done=[]->done.getD i false=true:=by
   intro m
   induction m with
   |zero=>intro i h;omega
   |succ m ihm=>
    intro i him hil hr
    have his:i<done.size:=by rw [h.dsz,jO];omega
    by_cases hdn:done.getD i true=true
    ·rw [<-mD his];exact hdn
    ·exfalso
     obtain⟨o,ho⟩: ∃o,(l++t)[i]? =some o:=⟨l[i],hL2 i _ (rg hil)⟩
     have hmem:i∈Region.ready .any (l++t).toArray done:=by
      rw [qD]
      refine⟨by simpa using hdn,o,by simpa using ho,fun e he V=>?_⟩
      have:=hedge i o ho
      unfold dF at this
      have:=jV.1 this e (by simpa using he)
      simp only [V,mq,ug,tM]at this
      exact ihm e.on (by omega) (by omega) hr
     rw [hr]at hmem;cases hmem
  refine⟨fun hr=>absurd (fun i hi=>hready0 (i+1) i (by omega) hi hr) hall,fun i hi=>?_⟩
  have hil:i<l.length:=by
   rcases lz i l.length with h' |h'
   ·exact h'
   ·exact absurd (lower done a w S σ c i hfree h hi h') hall
  obtain⟨hun,o,ho,hwait⟩:=qD.1 hi
  have ho' :(l++t)[i]? =some o:=by simpa using ho
  have hol:=hL1 i o hil ho'
  obtain⟨e,he,needs,u,Y,J,Z,_,h4,h5⟩:=hget i o hol
  rw [pS]at Y Z h4
  have hF:=h.need ho' hun hwait J Z
  have his:i<done.size:=by rw [h.dsz,jO];omega
  have hun' :done.getD i false=false:=by rw [<-mD his];exact hun
  have hu' :jP (done.setIfInBounds i true)=fuel:=by have:=oN hun;omega
  have huq: ∀d,o.dst=some d-> ∀j p,(l++t)[j]? =some p->done.getD j false=true->p.dst=some d->i=j:=fun d hdd j p hj hjd hpd=>by
   rcases lz j l.length with h' |h'
   ·exact hs2 i j o p d hol (hL1 j p h' hj) hdd hpd
   ·rw [hfree j h']at hjd;cases hjd
  have hfree' : ∀j,l.length<=j->(done.setIfInBounds i true).getD j false=false:=fun j hj=>by
   rw [sv false (by omega)];exact hfree j hj
  have hbl:E.base<=w.heap.size:=h.ext.size
  have hwaits: ∀q,(l++t)[i]? =some q-> ∀e∈q.after,Region.binds .any e=true->done.getD e.on false=true:=fun q hq e he V=>by
   have:q=o:=by rw [ho']at hq;simpa using hq.symm
   subst this
   exact hwait e he V
  have hdpp: ∀k∈u.1,k=i\/done.getD k false=true:=fun k hk=>by
   have:=jV.1 h4 k hk
   simp only [jX,wB]at this
   rcases this.2 with V|V
   ·exact .inl (nL V)
   ·exact .inr (fH h.down _ i k hwaits V)
  have hdNN: ∀d,o.dst=some d->d<E.N.n:=fun d hd=>(hs1 o (sm hol) d hd).1
  unfold wpOpIn
  rw [ho]
  show if _ then _ else _
  cases e with
  |false=>
   simp only at h5
   obtain⟨hdS,lo,hi',hwin,h5⟩:=h5
   rw [pS]at hwin
   obtain⟨d,hdd⟩:=DH.1 hdS
   have hdN:=(hs1 o (sm hol) d hdd).1
   unfold Og at hwin
   rw [jX]at hwin
   obtain⟨hw1,hw2⟩:=hwin
   have hw1' :=pz hw1
   have hwk: ∀k,es[k]? =some true->(Nat.ble lo (fX es k)=true\/lK (l++t) (l++t).length i k=true)/\(Nat.blt (fX es k) hi' =true\/lK (l++t) (l++t).length k i=true):=fun k hk=>by
    have hkl:k<es.length:=(qr.1 hk).1
    have:=jV.1 hw2 k (by simpa using hkl)
    rw [hk]at this
    simpa using this
   have hlo:lo<=c:=by
    rcases lz c lo with hlt|hge
    ·exfalso
     obtain⟨k,hk1,hk2,hk3⟩:=tw (es:=es) (c:=c) (k:=es.length) (by omega)
     rcases(hwk k hk2).1 with V|V
     ·have:=pz V;omega
     ·have:=(h.chain k hk2).1 (fH h.down _ i k hwaits V)
      omega
    ·exact hge
   have hhi:c<=hi' :=by
    rcases lz hi' c with hlt|hge
    ·exfalso
     obtain⟨k,hk1,hk2,hk3⟩:=tw (es:=es) (c:=hi') (k:=es.length) (by omega)
     rcases(hwk k hk2).2 with V|V
     ·simp only [tM]at V;omega
     ·have hkd:done.getD k false=true:=(h.chain k hk2).2 (by omega)
      have:=fH h.down _ k i (fun q hq e he V=>h.down k q hq hkd e he V) V
      rw [this]at hun';cases hun'
    ·exact hge
   have h6:=h5 c σ hlo hhi a w S h.sat h.own hF
   have hch' : ∀k,es[k]? =some true->((done.setIfInBounds i true).getD k false=true↔fX es k<c):=fun k hk=>by
    have hne:i≠k:=fun e=>by subst e;rw [he]at hk;cases hk
    rw [sv false hne];exact h.chain k hk
   by_cases hw:Region.wanted o (yielded (l++t).toArray a.tmps)=true
   ·rw [bE hw]at h6 ⊢
    refine jD (fun a' w' ⟨v,S',ha,I,hs,hv⟩=>?_) h6
    subst ha
    exact ih _ _ _ S' _ c hu' hfree' hcle (h.step ho' hdNN huq hwait Y hun hdpp I (fun _ V=>V.elim) hs (h.own.ext0 I) (fun _ _=>rfl) hv hch')
   ·rw [bn hw]at h6 ⊢
    exact⟨fun _ _=>trivial,ih _ _ _ S _ c hu' hfree' hcle (h.step ho' hdNN huq hwait Y hun hdpp (gU.refl oW _ _) (fun _ V=>V.elim) h.sat h.own (fun _ _=>rfl) h6 hch')⟩
  |true=>
   simp only [pS]at h5
   -- it is the next one of the chain
   have hca:fX es i=c:=by
    have hn: ¬fX es i<c:=fun hlt=>by rw [(h.chain i he).2 hlt]at hun';cases hun'
    rcases lz c (fX es i)with hlt|hge
    ·exfalso
     obtain⟨k,hk1,hk2,hk3⟩:=tw hlt
     have hkd:done.getD k false=true:=fH h.down _ i k hwaits (hchain i k hk1 he hk2)
     have:=(h.chain k hk2).1 hkd
     omega
    ·omega
   subst hca
   have h6:=h5 σ a w S h.sat h.own hF hbl
   have hch' : ∀k,es[k]? =some true->((done.setIfInBounds i true).getD k false=true↔fX es k<fX es i+1):=fun k hk=>by
    by_cases hik:i=k
    ·subst hik
     constructor
     ·intro _;omega
     ·intro _;simp [his]
    ·rw [sv false hik,h.chain k hk]
     constructor
     ·intro h;omega
     ·intro hlt
      rcases lz i k with hlk|hlk
      ·have:=A1 hlk he;omega
      ·exact A1 (by omega) hk
   have hcle' :fX es i+1<=fX es es.length:=A1 (by omega) he
   by_cases hw:Region.wanted o (yielded (l++t).toArray a.tmps)=true
   ·rw [bE hw]at h6 ⊢
    refine jD (fun a' w' ⟨v,S',x,ha,I,hs,hown,hv⟩=>?_) h6
    subst ha
    exact ih _ _ _ S' _ _ hu' hfree' hcle' (h.step ho' hdNN huq hwait Y hun hdpp I (fun b ⟨f,X,V⟩=>(dg.mem h.own f X).2 b V) hs hown (fun k hk=>zL σ x hk) hv hch')
   ·rw [bn hw]at h6 ⊢
    obtain⟨x,hown,hv⟩:=h6
    exact⟨fun _ _=>trivial,ih _ _ _ S _ _ hu' hfree' hcle' (h.step ho' hdNN huq hwait Y hun hdpp (gU.refl oW _ _) (fun _ V=>V.elim) h.sat hown (fun k hk=>zL σ x hk) hv hch')⟩
variable{O:List OE}
def jN{id:Nat}(m:Nat)(ts:List TS)(es:List Bool)(Ss:List ((Nat->OI)->List OE))(hO:Ss[0]? =some fun _=>O)(hm:E.P.follows .mixedOrders=true)(hsl:ul E.N.n [] (L.take m)=true)(hlen:ts.length=(L.take m).length)(hesl:es.length=(L.take m).length)(hch:GI L es=true)(D:vx L (L.take m).length (L.drop m).length=true)(hd:DS E G L ts Ss es 0 0 (L.take m) es)(k: ∀σ:Nat->OI,RG E L.toArray Q (L.drop m) (Je Ss (fX es es.length) σ) (Ee (L.take m) (Lh ts σ) G)):CG E Q (.region id L.toArray true) O G:=fun a w S st=>by
 have hL:L=L.take m++L.drop m:=(sn m L).symm
 generalize L.take m=l at hL hsl hlen hesl D hd k
 generalize L.drop m=t at hL D k
 subst hL
 refine wpIn_region_any hm ?_
 obtain⟨he,hs⟩:=uP (w:=w) st.sat
 have hO0:Je Ss 0 (fun _=>qt)=O:=by unfold Je;rw [hO]
 refine DM hsl hlen hesl hd hch D (fun a w S σ st=>k σ a w S st) _ _ _ _ S (fun _=>qt) 0 ?_ (fun j _=>?_) (mJ _)
  ⟨st.ext.step0 he,hs,by rw [hO0];exact st.own.ext0 he,st.facts.size,st.facts.defers,by simp,fun j o hj hdone=>?_,fun k t hk _=>st.facts.at_ k t hk,fun j o d t hj hdone=>?_,fun j p hdone=>?_,fun k _=>⟨fun hdone=>?_,fun h=>(by omega)⟩⟩
 ·unfold jP;rw [G3,G1];simp
 ·simp [vK];split<;>rfl
 ·simp [vK]at hdone
  split at hdone<;>simp at hdone
 ·simp [vK]at hdone
  split at hdone<;>simp at hdone
 ·simp [vK]at hdone
  split at hdone<;>simp at hdone
 ·simp [vK]at hdone
  split at hdone<;>simp at hdone
def sw{p:Nat->(Nat->OI)->Prop}{lo:Nat}(h: ∀σ,p lo σ): ∀c σ,lo<=c->c<=lo->p c σ:=fun c σ Y J=>by
 have:c=lo:=by omega
 subst this;exact h σ
def xE{p:Nat->(Nat->OI)->Prop}{lo hi:Nat}(h: ∀σ,p lo σ)(k: ∀c σ,lo+1<=c->c<=hi->p c σ): ∀c σ,lo<=c->c<=hi->p c σ:=fun c σ Y J=>by
 by_cases e:c=lo
 ·subst e;exact h σ
 ·exact k c σ (by omega) J
variable{after:Array Edge}{g:Option (Nat×Bool)}{ok:α->Prop}{op:Op}{pos:String}{post:OI->List OE}
def AP{ty:TypeId}(hnd: ∀c,op≠ .defer c)(h: ∀a w S,jA w S->dg E.base E.B w S O->cW E.N S a G->E.base<=w.heap.size-> ∃w' S' x,(execOp a.eval ⟨none,op,ty,pos,after,g⟩).run E.P w= .ok .skip w' /\gU (xd O) w S w' S' /\jA w' S' /\dg E.base E.B w' S' (post x)):
  EffOK E O G ⟨none,op,ty,pos,after,g⟩ post (fun _=>vR):=fun a w S hs ho X V=>by
 obtain⟨w',S',x,Y,J,Z,h4⟩:=h a w S hs ho X V
 refine⟨hnd,?_⟩
 rw [Y]
 exact⟨undef,S',x,rfl,J,Z,h4,trivial⟩

abbrev HL:=List (Nat×Value)
def uF:HL->Nat->Option Value
 |[],_=>none
 |p::hs,o=>bif Nat.beq p.1 o then some p.2 else uF hs o
def u7: ∀{hs:HL} {o:Nat} {v:Value},uF hs o=some v->(o,v)∈hs
 |[],_,_,h=>by cases h
 |p::hs,o,v,h=>by
  unfold uF at h
  by_cases V:Nat.beq p.1 o=true
  ·rw [V]at h
   have e1:=nL V
   have e2:p.2=v:=qa h
   subst e1 e2
   exact mp ..
  ·rw [wC]at V
   rw [V]at h
   exact nu _ (u7 h)
def rH{α:Type}(r:Rp α)(hs:HL):Rp α where
 sz:=r.sz
 agg:=r.agg
 rc:=fun S cs x=>r.rc S cs x/\ ∀p∈hs,cs[p.1]? =some p.2
 mono:=fun h k=>⟨r.mono h k.1,k.2⟩
 len:=fun k=>r.len k.1
 one:=fun k=>r.one k.1
 sc:=r.sc
variable{cs:List Value}{off:Nat}
def OH{hs:HL}{get:α->β}(h:mj r off q get):mj (rH r hs) off q get:=fun S cs x k=>h S cs x k.1
def IQ(h:cs[off]? =some v):(cs.drop off).take 1=[v]:=by
 have hlt:=(qr.1 h).1
 rw [xB hlt,(qr.1 h).2]
 rfl
def R1{hs:HL}(h:uF hs off=some v):mj (rH r hs) off rV (fun _=>v):=fun S cs x k=>by
 have Y:=k.2 _ (u7 h)
 exact⟨IQ Y,r.one k.1 v (sm Y)⟩
def HZ(z:List Value):HL->Prop
 |[]=>True
 |p::hs=>z[p.1]? =some p.2/\HZ z hs
variable{z:List Value}
def HZ.all: ∀{hs:HL},HZ z hs-> ∀p∈hs,z[p.1]? =some p.2
 |_::_,⟨h,_⟩,_,.head _=>h
 |_::_,⟨_,h⟩,_,.tail _ hm=>HZ.all h _ hm
def zH{x:α}{hs:HL}(h: ∀S,r.rc S z x)(k:HZ z hs): ∀S,(rH r hs).rc S z x:=fun S=>⟨h S,k.all⟩
def OF(hs:HL)(off sz:Nat):Bool:=hs.all fun p=>Nat.blt p.1 off||Nat.ble (off+sz) p.1
def RC(hs:HL)(off sz:Nat)(v:Option Value):HL->Prop
 |[]=>True
 |p::l=>((v=some p.2/\p.1=off/\sz=1)\/(uF hs p.1=some p.2/\(Nat.blt p.1 off||Nat.ble (off+sz) p.1)=true))/\RC hs off sz v l
variable{sz:Nat}
def RC.all{hs:HL}{v:Option Value}: ∀{l:HL},RC hs off sz v l-> ∀p∈l,(v=some p.2/\p.1=off/\sz=1)\/(uF hs p.1=some p.2/\(Nat.blt p.1 off||Nat.ble (off+sz) p.1)=true)
 |_::_,⟨h,_⟩,_,.head _=>h
 |_::_,⟨_,h⟩,_,.tail _ hm=>RC.all h _ hm
def yU{ds:List Value}{k:Nat}(hl:ds.length=sz)(hoff:off+sz<=cs.length)(h:(Nat.blt k off||Nat.ble (off+sz) k)=true):(cs.take off++ds++cs.drop (off+sz))[k]? =cs[k]? :=by
 simp only [wB,tM,Nat.ble_eq]at h
 have D:(cs.take off).length=off:=by simp;omega
 rcases h with h|h
 ·rw [vi (by simp;omega),vi (by omega),wE h]
 ·rw [qC (by simp;omega),ue]
  congr 1
  simp only [jO,D,hl];omega
def KP{ds:List Value}(hd:ds=[v])(hoff:off+1<=cs.length):(cs.take off++ds++cs.drop (off+1))[off]? =some v:=by
 subst hd
 have D:(cs.take off).length=off:=by simp;omega
 rw [vi (by simp;omega),qC (by omega),D,xz]
 rfl
variable{y:α}
def Qi{hs:HL}{set:α->β->α}(h:ij r off q set)(hk:OF hs off q.sz=true)(hoff:Nat.ble (off+q.sz) r.sz=true):ij (rH r hs) off q set:=fun S cs x ds y Y J=>by
 refine⟨h S cs x ds y Y.1 J,fun p hp=>?_⟩
 have hl:=r.len Y.1
 rw [yU (q.len J) (by have:=pz hoff;omega) (jV.1 hk p hp)]
 exact Y.2 _ hp
variable{hg U:TypeId}{hb:MV β}{agg:Bool}{bytes cap:Nat}{dst:Option Tmp}{ops:Array Oper}{rest:List Oper}{xs:List α}
section
variable{e:Exit}
section
variable{ty:TypeId}
def vg{t:OI->Ty}(h:EffOK E O G ⟨none,op,ty,pos,after,none⟩ post t)(k: ∀x,RG E ops Q rest (post x) G):RG E ops Q (⟨none,op,ty,pos,after,none⟩::rest) O G:= .of rfl fun a w S st=>
 my (fun a' w' ⟨v,S',x,ha,I,hs,ho,hv⟩=>by
  subst ha
  exact k x _ _ S' ⟨st.ext.step I fun b ⟨f,X,V⟩=>(dg.mem st.own f X).2 b V,hs,ho,st.facts.mono I.keep⟩) (h a w S st.sat st.own st.facts st.base_le)
def ii{γ:Type}{r' :Rp γ}{x:α}{x' :γ}{y:β}{v:Operand}(ti:TI E.P U sz bytes agg z)(hsz:q.sz=sz)(hset:oz r r' off q x y x')(hoff:Nat.ble (off+q.sz) r.sz=true)(hp:aF E.N G p (tV (ax b off)))(hv:aF E.N G v (H q y)):EffOK E (bx r hg b x::O) G ⟨none,.store U p v,ty,pos,after,g⟩ (fun _=>bx r' hg b x' ::O) (fun _=>vR):=AP (fun _ h=>(by cases h)) fun a w S hs ho X V=>by
 have Y:a.eval p=ax b off:=hp S a X
 obtain⟨ds,J,Z⟩:=hv S a X
 obtain⟨⟨hno,cur,h5,h6⟩,_⟩:=ho.1
 have hl:=r.len h6
 have hoff' :=pz hoff
 obtain⟨w',hr,e1,e2,e3,e4,e5,e6⟩:=iO ti hsz Z h5 (off:=off) (by simp at hl;omega)
 have hrun:(execOp a.eval ⟨none,.store U p v,ty,pos,after,g⟩).run E.P w= .ok .skip w' :=by
  simp [execOp,Y,J,Instr.storeAt,ax,Instr.sureAddr,hr]
 obtain⟨g1,g2,g3⟩:=nD (O:=O) hs (bx r hg b x) (bx r' hg b x') ho (fun _=>sr) (fun _=>sr) ⟨e1,e2,e3,e4.1,e4.2⟩ e6 ⟨hno,_,e5,by simpa using hset S _ _ h6 Z⟩ hno
 exact⟨w',S,qt,hrun,g1.more fun k hk=>⟨_,mp ..,hk⟩,g2,g3⟩
def AO{set:α->β->α}{hs hs' :HL}{x:α}{y:β}{u:Value}{v:Operand}(ti:TI E.P U 1 bytes false z)(hsz:q.sz=1)(hag:q.agg=false)(hset:ij r off q set)(hoff:Nat.ble (off+1) r.sz=true)(hk:RC hs off 1 (some u) hs')(hp:aF E.N G p (tV (ax b off)))(hv:aF E.N G v (H q y))(hu:aF E.N G v (tV u)):EffOK E (bx (rH r hs) hg b x::O) G ⟨none,.store U p v,ty,pos,after,g⟩ (fun _=>bx (rH r hs') hg b (set x y)::O) (fun _=>vR):=AP (fun _ h=>(by cases h)) fun a w S hsat ho X V=>by
 have Y:a.eval p=ax b off:=hp S a X
 obtain⟨ds,J,Z⟩:=hv S a X
 have hu' :a.eval v=u:=hu S a X
 obtain⟨⟨hno,cur,h5,h6⟩,_⟩:=ho.1
 have hl:=r.len h6.1
 have hoff' :=pz hoff
 have hdl:=q.len Z
 have hds:ds=[u]:=by
  obtain⟨d,hd⟩:=List.length_eq_one_iff.1 (by rw [hdl,hsz]:ds.length=1)
  subst hd
  have e1:q.val [d]=d:=by simp [Rp.val,hag]
  rw [J,e1]at hu'
  rw [hu']
 obtain⟨w',hr,e1,e2,e3,e4,e5,e6⟩:=iO ti hsz Z h5 (off:=off) (by simp at hl;omega)
 have hrun:(execOp a.eval ⟨none,.store U p v,ty,pos,after,g⟩).run E.P w= .ok .skip w' :=by
  simp [execOp,Y,J,Instr.storeAt,ax,Instr.sureAddr,hr]
 rw [hsz]at e5
 have hnew:(rH r hs').rc S (cur.toList.take off++ds++cur.toList.drop (off+1)) (set x y):=by
  have h7:=hset S _ _ _ _ h6.1 Z
  rw [hsz]at h7
  refine⟨h7,fun p hp=>?_⟩
  rcases hk.all p hp with⟨f1,f2,_⟩|⟨f1,f2⟩
  ·rw [f2]
   exact KP (by rw [hds,qa f1]) (by omega)
  ·rw [yU (by rw [hdl,hsz]) (by omega) f2]
   exact h6.2 _ (u7 f1)
 obtain⟨g1,g2,g3⟩:=nD (O:=O) hsat (bx (rH r hs) hg b x) (bx (rH r hs') hg b (set x y)) ho (fun _=>sr) (fun _=>sr) ⟨e1,e2,e3,e4.1,e4.2⟩ e6 ⟨hno,_,e5,by simpa using hnew⟩ hno
 exact⟨w',S,qt,hrun,g1.more fun k hk=>⟨_,mp ..,hk⟩,g2,g3⟩
end
section
variable{ty:TypeId}
def JN{hs:HL}{x:α}{u:Value}(ti:TI E.P U 1 bytes false z)(hk:uF hs off=some u)(hm:bx (rH r hs) hg b x∈O)(hp:aF E.N G p (tV (ax b off))):
  bT E O G ⟨dst,.load U p,ty,pos,after,g⟩ (tV u):=(be (q:=rV) ti rfl rfl (R1 hk) hm hp).imp fun _ _ h=>(qg.1 h).1
def gy{q:Rp α}{r:Rp β}{hs:HL}{x:β}{hb:TypeId}{l:Option Nat}(ti:TI E.P U 1 bytes false z)(hk:uF hs off=some (aL l cap xs.length))(hm:bx (rH r hs) hg b x∈O)(hm2:hX q hb l cap xs∈O)(hp:aF E.N G p (tV (ax b off))):
  bT E O G ⟨dst,.load U p,ty,pos,after,g⟩ (tO q l cap xs):=fun a w S hs' ho X=>
 my (fun _ _ ⟨v,S',Y,J,Z,h4⟩=>⟨v,S',Y,J,Z,h4,by
  have h5:v=aL l cap xs.length:=h4
  rw [h5]
  exact pC (((ho.ext0 J).mem _ hm2).1)⟩) (JN (g:=g) (ty:=ty) (pos:=pos) (after:=after) (dst:=dst) ti hk hm hp a w S hs' ho X)
def LR{t:Ty}(Y: ∀S v,t.p S v->v.oneCell' =true)(I:aF E.N G x t):bT E O G ⟨dst,.box hg x,ty,pos,after,g⟩ (bC (rT t) ()):=
 JP (fun S a X=>tRT.2 ⟨Y _ _ (I S a X),I S a X⟩)
end
def LE:HL->HL->Prop
 |[],_=>True
 |p::l,hs=>uF hs p.1=some p.2/\LE l hs
def LE.all{hs:HL}: ∀{l:HL},LE l hs-> ∀p∈l,p∈hs
 |_::_,⟨h,_⟩,_,.head _=>u7 h
 |_::_,⟨_,h⟩,_,.tail _ hm=>LE.all h _ hm
end

variable{O' :List OE}
def EffOK.perm{t:OI->Ty}(h:EffOK E O' G o post t)(k: ∀{w S},dg E.base E.B w S O->dg E.base E.B w S O')(m: ∀f∈O',f∈O):EffOK E O G o post t:=fun a w S hs ho X V=>
 my (fun _ _ ⟨v,S',x,Y,J,Z,h4,h5⟩=>⟨v,S',x,Y,J.more fun _ ⟨f,X,hk⟩=>⟨f,m f X,hk⟩,Z,h4,h5⟩) (h a w S hs (k ho) X V)
variable{x0 x1 x2 x3 x4:OE}
namespace EffOK
section
variable{t:OI->Ty}
def fr1(h:EffOK E (x1::x0::O) G o post t):EffOK E (x0::x1::O) G o post t:=h.perm (fun hw=>dg.swap hw) (fun f X=>by simp only [gB]at X ⊢;rcases X with h|h|h<;>simp [h])
def fr2(h:EffOK E (x2::x0::x1::O) G o post t):EffOK E (x0::x1::x2::O) G o post t:=h.perm (fun hw=>re hw) (fun f X=>by simp only [gB]at X ⊢;rcases X with h|h|h|h<;>simp [h])
def fr3(h:EffOK E (x3::x0::x1::x2::O) G o post t):EffOK E (x0::x1::x2::x3::O) G o post t:=h.perm (fun hw=>rd hw) (fun f X=>by simp only [gB]at X ⊢;rcases X with h|h|h|h|h<;>simp [h])
def fr4(h:EffOK E (x4::x0::x1::x2::x3::O) G o post t):EffOK E (x0::x1::x2::x3::x4::O) G o post t:=h.perm (fun hw=>rb hw) (fun f X=>by simp only [gB]at X ⊢;rcases X with h|h|h|h|h|h<;>simp [h])
def fr6{x5 x6:OE}(h:EffOK E (x6::x0::x1::x2::x3::x4::x5::O) G o post t):EffOK E (x0::x1::x2::x3::x4::x5::x6::O) G o post t:=h.perm (fun hw=>tz hw) (fun f X=>by simp only [gB]at X ⊢;rcases X with h|h|h|h|h|h|h|h<;>simp [h])
def fr7{x5 x6 x7:OE}(h:EffOK E (x7::x0::x1::x2::x3::x4::x5::x6::O) G o post t):EffOK E (x0::x1::x2::x3::x4::x5::x6::x7::O) G o post t:=h.perm (fun hw=>A3 hw) (fun f X=>by simp only [gB]at X ⊢;rcases X with h|h|h|h|h|h|h|h|h<;>simp [h])
def post_imp{post' :OI->List OE}(h:EffOK E O G o post t)(k: ∀{w S x},dg E.base E.B w S (post x)->dg E.base E.B w S (post' x)):EffOK E O G o post' t:=fun a w S hs ho X V=>
 my (fun _ _ ⟨v,S',x,Y,J,Z,h4,h5⟩=>⟨v,S',x,Y,J,Z,k h4,h5⟩) (h a w S hs ho X V)
end
end EffOK
variable{ats:Array TypeId}{mm:Bool}{ys:List α}
section
variable{ty:TypeId}
def GA{zs:List α}{v:α}{i:Int}(ti:TI E.P U sz bytes agg z)(hsz:r.sz=sz)(hy:cU xs i=some y)(hz:xs.set i.toNat v=zs)(hp:aF E.N G p (tV (ax b (i.toNat*r.sz))))(hv:aF E.N G x (H r v)):EffOK E (bx (nQ r n) hg b xs::O) G ⟨none,.store U p x,ty,pos,after,g⟩ (fun _=>bx (nQ r n) hg b zs::O) (fun _=>vR):=AP (fun _ h=>(by cases h)) fun a w S hsat hown X hbase=>by
 subst hz
 have Y:a.eval p=ax b (i.toNat*r.sz):=hp S a X
 obtain⟨ds,J,Z⟩:=hv S a X
 obtain⟨⟨hno,cur,h5,h6⟩,_⟩:=hown.1
 obtain⟨h0,hy'⟩:=iT hy
 have hlt:i.toNat<xs.length:=(qr.1 hy').1
 have hl:=mw h6.2
 simp only [yx]at hl
 have hmul:i.toNat*r.sz+r.sz<=xs.length*r.sz:=by rw [<-Nat.succ_mul];exact wD _ hlt
 obtain⟨w',hr,e1,e2,e3,e4,e5,e6⟩:=iO ti hsz Z h5 (off:=i.toNat*r.sz) (by omega)
 have hrun:(execOp a.eval ⟨none,.store U p x,ty,pos,after,g⟩).run E.P w= .ok .skip w' :=by
  simp [execOp,Y,J,Instr.storeAt,ax,Instr.sureAddr,hr]
 obtain⟨g1,g2,g3⟩:=nD (O:=O) hsat (bx (nQ r n) hg b xs) (bx (nQ r n) hg b (xs.set i.toNat v)) hown (fun _=>sr) (fun _=>sr) ⟨e1,e2,e3,e4.1,e4.2⟩ e6 ⟨hno,_,e5,by rw [BJ];exact h6.1,wO Z h6.2 hlt⟩ hno
 exact⟨w',S,qt,hrun,g1.more fun c hc=>⟨_,mp ..,hc⟩,g2,g3⟩

section
def ly{x:α}(ti:TI E.P hg sz bytes agg z)(I: ∀S,r.rc S z x):
  EffOK E O G ⟨some d,.alloc hg,ty,pos,after,g⟩ (fun i=>bx r hg (i.h 0).2 x::O) (fun i=>tV (ax (i.h 0).2 0)):=fun a w S hs ho X V=>by
 obtain⟨zv,hzr,hzc⟩:=ti.zero w
 obtain⟨he,hs',hno⟩:=iy (w:=w) (.cells z.toArray hg (0,0)) hs
 have hrun:(execOp a.eval ⟨some d,.alloc hg,ty,pos,after,g⟩).run E.P w= .ok (.value (ax w.heap.size 0)) (w.alloc (.cells z.toArray hg (0,0))):=by
  simp [execOp,Instr.alloc,hzr,newVar,newRow,hzc,ax]
 refine⟨fun c h=>(by cases h),?_⟩
 rw [hrun]
 exact⟨_,S,oi none w.heap.size,rfl,he.more fun _ V=>V.elim,hs',rt ho he (e:=bx r hg w.heap.size x) ⟨hno,z.toArray,wF w _,by simpa using I S⟩ (fun b V=>zu V.symm) V,rfl⟩
def vc{xs:List Operand}(hc:al E.P f=true)(hs:gP E.P f ts false r hg ys)(I:il E.N G xs ts):
  EffOK E O G ⟨some d,.call ⟨.value (.func f),xs.toArray,ats⟩,ty,pos,after,g⟩ (fun i=>fD r hg (i.h 0).1 (i.h 0).2 ys::O) (fun i=>tV (aL (i.h 0).1 (i.h 0).2 ys.length)):=IG (mm:=false) hc hs I (fun _ _ _ _ _=>rfl)
end
section
def cM{l:Option Nat}{o i:Nat}{j:Int}(X:cP E.P hg i=some (off,sz))(h0:Nat.beq sz 0=false)(hm:jS mm r U l cap xs∈O)(hy:cU xs j=some y)(hp:aF E.N G p (tV (jn l o)))(he:o+off=n):
  bT E O G ⟨dst,.fieldAddr hg p i,ty,pos,after,g⟩ (tV (jn l n)):=by
 subst he
 exact By X h0 hm hy hp
def gY(I:aF E.N G x (tV (ax b off))):bT E O G ⟨dst,.nilCheck x,ty,pos,after,g⟩ (tV (ax b off)):= .of_pure fun a w S _ _ X=>by
 have Y:a.eval x=ax b off:=I S a X
 exact⟨ax b off,by simp [execOp,Y,ax],rfl⟩
def CW(I:aF E.N G x (bC r y)):bT E O G ⟨dst,.nilCheck x,ty,pos,after,g⟩ (bC r y):= .of_pure fun a w S _ _ X=>by
 have h0:=I S a X
 obtain⟨b,off,c,U,fr,Y,J,Z⟩:=h0
 exact⟨_,by simp [execOp,Y],b,off,c,U,fr,rfl,J,Z⟩
def qX{u:Value}(ti:TI E.P U 1 bytes false z)(hm:bx rV hg b u∈O)(hp:aF E.N G p (tV (ax b 0))):
  bT E O G ⟨dst,.load U p,ty,pos,after,g⟩ (tV u):=(be (q:=rV) (get:=fun x=>x) ti rfl rfl bO hm hp).imp fun _ _ h=>(qg.1 h).1
def jG{t:Ty}(ti:TI E.P U 1 bytes false z)(hp:aF E.N G p (bC (rT t) ())):bT E O G ⟨dst,.load U p,ty,pos,after,g⟩ t:=JO ti hp
end
def oD(h:O=O')(k:RG E ops Q rest O' G):RG E ops Q rest O G:=by subst h;exact k
def Lf{e:Exit}(h:O=O')(k:AT E Q e O' G):AT E Q e O G:=by subst h;exact k
def hW{N:Fr}{u:Value}(h:aF N G x (tV u))(ho:u.oneCell' =true):aF N G x (H rV u):=fun S a X=>qg.2 ⟨h S a X,ho⟩
end

variable{P:Program}
def DU{l:Option Nat}{t' e' :TypeId}(D:P.underlying t' =some (.slice e'))(h:zd mm r U l cap xs w S)(hs:dk xs lo (xs.length:Int)=some ys):
  ∃news,Src P r.sz t' (mR r.sz l cap lo.toNat ys.length) ys.length news w/\qS r S news ys:=by
 obtain⟨cells,Y,J,_⟩:=h
 obtain⟨lo',m,rfl,hm,Z,h4,rfl⟩:=ft hs
 have hm' :m=xs.length:=by omega
 subst hm'
 rw [zr,t8]
 cases l with
 |none=>
  have I:xs=[]:=vj Y.1
  subst I
  exact⟨[],by simpa [mR] using Src.ofNil w D 0,by simp [qS]⟩
 |some b=>
  obtain⟨cur,g1,g2,g3,g4,g5⟩:=Y
  have hlen:(xs.drop lo').length=xs.length-lo' :=by simp
  have hcl:=mw J
  have hsp:xs=xs.take lo' ++xs.drop lo' :=(sn lo' xs).symm
  have htl:(xs.take lo').length=lo' :=by simp;omega
  have hr:qS r S (cells.drop (lo' *r.sz)) (xs.drop lo'):=by
   rw [hsp]at J
   have:=(oS J).2
   rwa [htl]at this
  have hmul:lo' *r.sz<=xs.length*r.sz:=wD _ Z
  refine⟨cells.drop (lo' *r.sz),?_,hr⟩
  unfold mR
  refine Src.ofSlice w D _ _ _ _ (mw hr) (fun j u hu=>?_) (zh hr)
  by_cases hc:cap=lo'
  ·have:xs.drop lo' =[]:=Bq (by omega)
   rw [this]at hr
   have hr' :cells.drop (lo' *r.sz)=[]:=hr
   rw [hr']at hu;simp at hu
  ·simp only [hc,gE]
   rw [iI,xl g1]
   rw [ue,<-g5]at hu
   have hj:lo' *r.sz+j<xs.length*r.sz:=by
    have:=(qr.1 hu).1
    simp at this;omega
   rw [wE hj]at hu
   simpa using hu
section
variable{ty:TypeId}
def Cp{l:Option Nat}{yt:TypeId}(D:E.P.underlying t=some (.slice e))(hm:jS mm r U l cap xs∈O)(hs:dk xs lo (xs.length:Int)=some ys)(I:aF E.N G x (tV (mR r.sz l cap lo.toNat ys.length)))(hd:Nat.blt d E.N.n=true)(k: ∀b,(b=true->ys=[])->RG E ops Q rest O ((d,H rB b)::G)):RG E ops Q (⟨some d,.binOp .eql t x (.const (.slice none 0 0)) yt,ty,pos,after,none⟩::rest) O G:= .of rfl fun a w S st=>by
 have Y:a.eval x=mR r.sz l cap lo.toNat ys.length:=I S a st.facts
 obtain⟨⟨cells,hraw,_⟩,_⟩:=st.own.mem _ hm
 have hcn:a.eval (.const (.slice none 0 0))= .slice none 0 0:=rfl
 cases l with
 |none=>
  have hx0:xs=[]:=vj hraw.1
  have hy0:ys=[]:=by
   obtain⟨lo',m,_,_,_,_,rfl⟩:=ft hs
   subst hx0;simp
  have Z:(Op.equal t (.slice none 0 0) (.slice none 0 0)).run E.P w= .ok true w:=uU fun d=>by
   simp [Op.equalIn,jB D]
  have hrun:(execOp a.eval ⟨some d,.binOp .eql t x (.const (.slice none 0 0)) yt,ty,pos,after,none⟩).run E.P w= .ok (.value (.bool true)) w:=by
   simp [execOp,Y,mR,hcn,eqGuard,binOp,Z]
  refine⟨fun c h=>(by cases h),?_⟩
  rw [hrun]
  exact k true (fun _=>hy0) _ _ S (st.step (gU.refl _ _ _) st.sat hd (iC.2 rfl))
 |some b=>
  obtain⟨ad,hv⟩: ∃ad,mR r.sz (some b) cap lo.toNat ys.length= .slice (some ad) ys.length (cap-lo.toNat):=⟨_,rfl⟩
  have Z:(Op.equal t (.slice (some ad) ys.length (cap-lo.toNat)) (.slice none 0 0)).run E.P w= .ok false w:=uU fun d=>by
   simp [Op.equalIn,jB D]
  have hrun:(execOp a.eval ⟨some d,.binOp .eql t x (.const (.slice none 0 0)) yt,ty,pos,after,none⟩).run E.P w= .ok (.value (.bool false)) w:=by
   simp [execOp,Y,hv,hcn,eqGuard,binOp,Z]
  refine⟨fun c h=>(by cases h),?_⟩
  rw [hrun]
  exact k false (fun e=>(by cases e)) _ _ S (st.step (gU.refl _ _ _) st.sat hd (iC.2 rfl))
def A2{t' :TypeId}{l l2:Option Nat}{cap2:Nat}{zs us:List α}{y:Operand}(ti:TI E.P hg sz bytes agg z)(hsz:r.sz=sz)(hz:Nat.beq z.length sz=true)(h0:Nat.blt 0 sz=true)(h128:Nat.ble bytes 2048=true)(D:E.P.underlying t=some (.slice hg))(ht' :t' =t)(hd:Nat.blt d E.N.n=true)(I:aF E.N G x (tV (aL l cap n)))(hm:jS mm r U l2 cap2 us∈fD r hg l cap xs::O)(hs:dk us lo (us.length:Int)=some ys)(hy:aF E.N G y (tV (mR r.sz l2 cap2 lo.toNat ys.length)))(happ:jT xs ys=some zs)(k: ∀l' cap',RG E ops Q rest (fD r hg l' cap' zs::O) ((d,tV (aL l' cap' zs.length))::G))(hn:n=xs.length:=by rfl):
  RG E ops Q (⟨some d,.call ⟨.builtin .append,#[x,y],#[t,t']⟩,ty,pos,after,none⟩::rest) (fD r hg l cap xs::O) G:=by
 subst ht'
 exact ww (u:=fun cap' l' =>tV (aL l' cap' zs.length)) ti hsz hz h0 h128 D hd I (fun a w S st=>by
  have Y:a.eval y=mR r.sz l2 cap2 lo.toNat ys.length:=hy S a st.facts
  rw [Y]
  exact DU D (st.own.mem _ hm).1 hs) happ (fun _ _ _ _ _=>rfl) k hn
end

abbrev Jf(α hf:Type):=(σ:Type)->(α->σ->Option (Bool×σ))->σ->Option (σ×hf)
def HU(P:Program){α hf:Type}(args:α->List Ty)(it:Jf α hf)(Ob:hf->OI->List OE)(fid:FuncId)(cap:Array Value)(fp:Nat->Prop)(w:World)(S:SH):Prop:=
 ∀(σ:Type) (y:α->σ->Option (Bool×σ)) (s:σ) (R:σ×hf),it σ y s=some R-> ∀hx yv,RO P args y hx yv-> ∀e,hx s e->e.p w S->(∀k,e.fp k-> ¬fp k)->
  Calls P fid (#[yv]++cap) w fun en w' => ∃e' S' j,(∃v,en= .returned v)/\hx R.1 e' /\gU (fun k=>e.fp k\/fp k) w S w' S' /\jA w' S' /\e'.p w' S' /\dg 0 oW w' S' (Ob R.2 j)/\(∀k,e'.fp k\/xd (Ob R.2 j) k->(e.fp k\/fp k)\/w.heap.size<=k)/\ ∀k,e'.fp k-> ¬xd (Ob R.2 j) k
def Gj(P:Program){α hf:Type}(args:α->List Ty)(it:Jf α hf)(Ob:hf->OI->List OE)(v:Value)(fp:Nat->Prop):OE where
 fp:=fp
 p:=fun w S=>(∀k,fp k->k<w.heap.size)/\ ∃fid cap,v= .func (.func fid) #[] cap/\al P fid=true/\
  ∀C w' S',gU C w S w' S' ->(∀k,fp k-> ¬C k)->jA w' S' ->HU P args it Ob fid cap fp w' S'
 here:=fun h k hk=>h.1 k hk
 kept:=by
  rintro C w w' S S' ⟨Y,fid,cap,J,Z,h4⟩ k hC
  refine⟨fun b V=>ud (Y b V) k.size,fid,cap,J,Z,fun C' w'' S'' k' hC' hs=>?_⟩;exact h4 (fun b=>C b\/C' b) w'' S'' ((k.more fun b V=> .inl V).trans (k'.more fun b V=> .inr V)) (fun b V h=>h.elim (hC b V) (hC' b V)) hs
section
variable{it:It α}
end

def xv(P:Program)(fid:FuncId){α hf:Type}(args:α->List Ty)(it:Jf α hf)(Ob:hf->OI->List OE)(O:List OE)(cts:List Ty):Prop:=
 ∀w S cap,jA w S->dg 0 oW w S O->tX S cts cap->HU P args it Ob fid cap.toArray (xd O) w S
def KJ(E:En){σ hf:Type}(hx:σ->OE->Prop)(R:σ×hf)(Ob:hf->OI->List OE):Ending->World->Prop:=fun en w' => ∃e' S' j,(∃v,en= .returned v)/\hx R.1 e' /\gU E.B E.w0 E.S0 w' S' /\jA w' S' /\e'.p w' S' /\dg 0 oW w' S' (Ob R.2 j)/\(∀k,e'.fp k\/xd (Ob R.2 j) k->E.B k\/E.w0.heap.size<=k)/\ ∀k,e'.fp k-> ¬xd (Ob R.2 j) k
variable{B:Nat->Prop}{hf:Type}{Ob:hf->OI->List OE}{S0:SH}{args:α->List Ty}{fn:Func}{w0:World}
def xv.of{it:Jf α hf}{cts:List Ty}(X:P.funcs[f]? =some fn)(V:fn.body=some c)(hN:fn.ntmps=N)(hn:Nat.ble (cts.length+1) N=true)(h: ∀(σ:Type) (y:α->σ->Option (Bool×σ)) (s:σ) (R:σ×hf),it σ y s=some R-> ∀hx yv,RO P args y hx yv-> ∀e,hx s e-> ∀w0 S0 B,(∀k,B k->e.fp k\/ ∃f∈O,f.fp k)->
   CG ⟨P,⟨N,[]⟩,B,w0,S0,none⟩ (bodyPost P fn (KJ ⟨P,⟨N,[]⟩,B,w0,S0,none⟩ hx R Ob)) c (e::O) (sO 0 (tV yv::cts))):xv P f args it Ob O cts:=by
 subst hN
 intro w S cap hs ho hc σ y s R hit hx yv hy e he hep hap
 have hown:dg w.heap.size (fun k=>e.fp k\/ ∃f∈O,f.fp k) w S (e::O):=
  ⟨⟨hep,fun k hk=> .inr (.inl hk)⟩,fun f X b V hfb=>hap b V ⟨f,X,hfb⟩,mI ho fun f X k hk=> .inr (.inr ⟨f,X,hk⟩)⟩
 have hfacts:=o3 (S:=S) (ts:=tV yv::cts) (vs:=yv::cap) ⟨rfl,hc⟩ fn.ntmps (by simpa using pz hn)
 have:=mf.1 (callsIn_of_wp (F:=fw none) (n:=0) X V trivial (h σ y s R hit hx yv hy e he w S (fun k=>e.fp k\/ ∃f∈O,f.fp k) (fun _ h=>h) _ w S ⟨gU.refl _ _ _,hs,hown,hfacts⟩))
 rw [show(#[yv]++cap.toArray:Array Value)=(yv::cap).toArray from by simp]
 exact this.mono fun en w' ⟨e',S',j,Y,J,Z,h4,h5,h6,h7,h8⟩=>⟨e',S',j,Y,J,Z,h4,h5,h6,h7,h8⟩
def Fs{σ:Type}{hx:σ->OE->Prop}{R:σ×hf}{e:OE}(hr:fn.results= #[])(he:hx R.1 e)(j:OI)(hO:O=Ob R.2 j):
  AT ⟨P,⟨N,[]⟩,B,w0,S0,none⟩ (bodyPost P fn (KJ ⟨P,⟨N,[]⟩,B,w0,S0,none⟩ hx R Ob)) .ret (e::O) G:=fun _ _ S st=>by
 subst hO
 refine⟨st.facts.defers,_,xK P fn hr _ _,e,S,j,⟨_,rfl⟩,he,st.ext,st.sat,st.own.1.1,st.own.2.2.weak,fun k hk=>?_,fun k hk ⟨f,X,hfk⟩=>st.own.2.1 f X k hk hfk⟩
 rcases hk with hk|⟨f,X,hk⟩
 ·exact(st.own.1.2 k hk).symm
 ·exact((dg.mem st.own.2.2 f X).2 k hk).symm
def I8{σ:Type}{hx:σ->OE->Prop}{R:σ×hf}{e:OE}(hr:fn.results= #[])(he:hx R.1 e)(j:OI)(hO:O=Ob R.2 j):
  AT ⟨P,⟨N,[]⟩,B,w0,S0,none⟩ (bodyPost P fn (KJ ⟨P,⟨N,[]⟩,B,w0,S0,none⟩ hx R Ob)) .normal (e::O) G:=fun a w S st=>Fs hr he j hO a w S st
def xp(P:Program)(f:FuncId)(ts:List Ty)(O1:List OE){α hf:Type}(args:α->List Ty)(it:Jf α hf)(Ob:hf->OI->List OE):Prop:=
 ∀w S vs,jA w S->tX S ts vs->dg 0 oW w S O1->Calls P f vs.toArray w fun e w' => ∃v fp S',e= .returned v/\gU (xd O1) w S w' S' /\jA w' S' /\(Gj P args it Ob v fp).p w' S' /\ ∀k,fp k->xd O1 k\/w.heap.size<=k
def KI(E:En)(O1:List OE){α hf:Type}(args:α->List Ty)(it:Jf α hf)(Ob:hf->OI->List OE):Ending->World->Prop:=fun e w' => ∃v fp S',e= .returned v/\gU E.B E.w0 E.S0 w' S' /\jA w' S' /\(Gj E.P args it Ob v fp).p w' S' /\ ∀k,fp k->xd O1 k\/E.w0.heap.size<=k
variable{O1:List OE}
def xp.of{it:Jf α hf}(X:P.funcs[f]? =some fn)(V:fn.body=some c)(hN:fn.ntmps=N)(hn:Nat.ble ts.length N=true)(h: ∀w0 S0,CG ⟨P,⟨N,[]⟩,xd O1,w0,S0,none⟩ (bodyPost P fn (KI ⟨P,⟨N,[]⟩,xd O1,w0,S0,none⟩ O1 args it Ob)) c O1 (sO 0 ts)):xp P f ts O1 args it Ob:=by
 subst hN
 intro w S vs hs hv ho
 exact mf.1 (callsIn_of_wp (F:=fw none) (n:=0) X V trivial (h w S _ w S ⟨gU.refl _ _ _,hs,mI ho fun f X k hk=> .inr ⟨f,X,hk⟩,o3 hv _ (pz hn)⟩))
variable{fp:Nat->Prop}
def I7{k:Nat}{it:Jf α hf}(hr:fn.results= #[.tmp k])(hk:bM G k=some (tV v)):
  AT ⟨P,⟨N,[]⟩,xd O1,w0,S0,none⟩ (bodyPost P fn (KI ⟨P,⟨N,[]⟩,xd O1,w0,S0,none⟩ O1 args it Ob)) .ret (Gj P args it Ob v fp::O) G:=fun a w S st=>by
 have hv:a.tmps.getD k undef=v:=st.facts.at_ k _ hk
 exact⟨st.facts.defers,_,nc P fn k hr _ _,v,fp,S,by rw [hv],st.ext,st.sat,st.own.1.1,fun k hk=>(st.own.1.2 k hk).symm⟩
section
variable{ty:TypeId}
def GT{xs:List Operand}(O1 Or:List OE){it:Jf α hf}(hO:O=O1++Or)(hc:al E.P f=true)(hs:xp E.P f ts O1 args it Ob)(I:il E.N G xs ts)(hd:Nat.blt d E.N.n=true)(k: ∀v fp,RG E ops Q rest (Gj E.P args it Ob v fp::Or) ((d,tV v)::G)):
  RG E ops Q (⟨some d,.call ⟨.value (.func f),xs.toArray,ats⟩,ty,pos,after,none⟩::rest) O G:= .of rfl fun a w S st=>by
 subst hO
 have hr:(execOp a.eval ⟨some d,.call ⟨.value (.func f),xs.toArray,ats⟩,ty,pos,after,none⟩).run E.P w= .ok (.enter f (xs.map a.eval).toArray) w:=by
  simp [execOp,resolve,Act.eval,Deferred.ofValue,invoke,fE hc]
 refine⟨fun c h=>(by cases h),?_⟩
 rw [hr]
 refine(hs w S _ st.sat (I.tys st.facts) (mH st.own).1.weak).mono fun e w' ⟨v,fp,S',he,Y,J,Z,h4⟩=>⟨_,he,?_⟩
 have st' :=st.turn (O2:=[Gj E.P args it Ob v fp]) Y J ⟨⟨Z,fun _ _=> .inl (mJ _)⟩,fun _ h=>(by cases h),trivial⟩ (fun k ⟨f,X,hk⟩=>by
  rw [jY.1 X]at hk;exact h4 k hk)
 exact k v fp _ _ S' (st'.put hd rfl)
def Dv{fid:FuncId}{O2:List OE}{it:Jf α hf}{cts:List Ty}{caps:List Operand}(hO:O=O1++O2)(hc:al E.P fid=true)(hs:xv E.P fid args it Ob O1 cts)(hcap:il E.N G caps cts)(hd:Nat.blt d E.N.n=true)(k: ∀v fp,RG E ops Q rest (Gj E.P args it Ob v fp::O2) ((d,tV v)::G)):
  RG E ops Q (⟨some d,.makeFunc (.func fid) #[] caps.toArray,ty,pos,after,none⟩::rest) O G:= .of rfl fun a w S st=>by
 subst hO
 have hr:(execOp a.eval ⟨some d,.makeFunc (.func fid) #[] caps.toArray,ty,pos,after,none⟩).run E.P w= .ok (.value (.func (.func fid) #[] (caps.map a.eval).toArray)) w:=by simp [execOp,Instr.makeFunc]
 refine⟨fun c h=>(by cases h),?_⟩
 rw [hr]
 obtain⟨Y,J,Z⟩:=mH st.own
 have hcv:=hcap.tys st.facts
 refine k (.func (.func fid) #[] (caps.map a.eval).toArray) (xd O1) _ _ S ⟨st.ext,st.sat,?_,st.facts.put hd rfl⟩;refine dg.cons ⟨⟨fun b ⟨f,X,V⟩=>f.here (dg.mem Y f X).1 b V,fid,_,rfl,hc,fun C w' S' he hC hs' =>?_⟩,fun b ⟨f,X,V⟩=>(dg.mem Y f X).2 b V⟩ (fun f X b ⟨g,T,V⟩=>Z g T f X b V) J;exact hs w' S' _ hs' (Y.weak.ext he fun f X b V=>hC b ⟨f,X,V⟩) (hcv.mono he.keep)
end

def qQ(l:Nat)(r:Loop)(st:LoopState)(pd:Option Code):OE where
 fp:=fun k=>k=l
 p:=fun w S=>S l=none/\w.heap[l]? =some (.loop {r with state:=st,pending:=pd})
 here:=by
  intro w S h k hk
  subst hk
  exact(vL.1 h.2).1
 kept:=by
  intro C w w' S S' h k hC
  have hlt:=(vL.1 h.2).1
  exact⟨by rw [k.old l hlt (hC l rfl)];exact h.1,by rw [k.heap l hlt (hC l rfl)];exact h.2⟩
def Nt(j:Option Nat):LoopState:=if j.isNone then .ready else .done
def LJ(E:En)(l:Nat)(rec:Loop){σ ι:Type}(Oi:ι->List OE)(dat:ι->σ)(jc:Nat->Code)(r:Option Nat×σ):Ending->World->Prop:=fun en w' =>
 ∃i S',en= .returned (.bool r.1.isNone)/\dat i=r.2/\gU E.B E.w0 E.S0 w' S' /\jA w' S' /\dg E.base E.B w' S' (qQ l rec (Nt r.1) (r.1.map jc)::Oi i)
def xm{α σ:Type}(f:α->σ->Option (Option Nat×σ)):α->Option Nat×σ->Option (Bool×(Option Nat×σ)):=fun x s=>
 match s.1 with
 |some _=>none
 |none=>(f x s.2).map fun r=>(r.1.isNone,r)
variable{base:Nat}{rec:Loop}{ι:Type}
section
def wT{l:Nat}{st st' :LoopState}{pd pd' :Option Code}{O:List OE}(h:dg base B w S (qQ l rec st pd::O))(hs:jA w S):
  gU (fun k=>k=l) w S (w.putObj l (.loop {rec with state:=st',pending:=pd' })) S/\jA (w.putObj l (.loop {rec with state:=st',pending:=pd' })) S/\dg base B (w.putObj l (.loop {rec with state:=st',pending:=pd' })) S (qQ l rec st' pd' ::O):=by
 obtain⟨hno,hl⟩:=h.1.1
 have hlt:=(vL.1 hl).1
 have hext:gU (fun k=>k=l) w S (w.putObj l (.loop {rec with state:=st',pending:=pd' })) S:=⟨rfl,rfl,rfl,dr _,by simp,fun k _ hk=>World.putObj_heap_other hk,SH.le_refl _,fun _ _ _=>rfl⟩
 refine⟨hext,hs.same fun k o hk=>?_,⟨⟨hno,World.putObj_heap_same hlt⟩,h.1.2⟩,h.2.1,h.2.2.ext hext fun g T k hk hkl=>h.2.1 g T k hkl hk⟩
 have hne:k≠l:=fun e=>by subst e;rw [hno]at hk;cases hk
 exact World.putObj_heap_other hne
def I9{l:Nat}{body:Code}{R:Ending->World->Prop}(h:CG E (roundPost E.P l R) body (qQ l rec .busy none::O) G):AT E (Ry E l body R) .normal (qQ l rec .ready none::O) G:=fun a w S st=>by
 obtain⟨Y,J,Z⟩:=wT (st' := .busy) (pd' :=none) st.own st.sat
 obtain⟨_,hl⟩:=st.own.1.1
 exact⟨_,run_beginRound hl rfl,h a _ S ⟨st.ext.step Y (fun c hc=>st.own.1.2 c hc),J,Z,st.facts⟩⟩
def DB{l:Nat}{σ:Type}{Oi:ι->List OE}{dat:ι->σ}{jc:Nat->Code}{s2:σ}(i:ι)(hi:dat i=s2)(hO:O=Oi i):AT E (roundPost E.P l (LJ E l rec Oi dat jc (none,s2))) .normal (qQ l rec .busy none::O) G:=fun a w S st=>by
 subst hO
 obtain⟨Y,J,Z⟩:=wT (st' := .ready) (pd' :=none) st.own st.sat
 obtain⟨_,hl⟩:=st.own.1.1
 exact⟨_,_,run_endRound none hl,i,S,rfl,hi,st.ext.step Y (fun c hc=>st.own.1.2 c hc),J,Z⟩
def DA{l:Nat}{σ:Type}{Oi:ι->List OE}{dat:ι->σ}{jc:Nat->Code}{s2:σ}(q:Nat)(hq:jc q= .ret)(i:ι)(hi:dat i=s2)(hO:O=Oi i):AT E (roundPost E.P l (LJ E l rec Oi dat jc (some q,s2))) .ret (qQ l rec .busy none::O) G:=fun a w S st=>by
 subst hO
 obtain⟨Y,J,Z⟩:=wT (st' := .done) (pd' :=some .ret) st.own st.sat
 obtain⟨_,hl⟩:=st.own.1.1
 exact⟨_,_,run_endRound (some .ret) hl,i,S,rfl,hi,st.ext.step Y (fun c hc=>st.own.1.2 c hc),J,by rw [yr,hq];exact Z⟩
def I3{it:Jf α hf}{σ:Type}(Oi:ι->List OE)(dat:ι->σ)(jc:Nat->Code){f:α->σ->Option (Option Nat×σ)}{R:(Option Nat×σ)×hf}{g:Operand}{ps:List Nat}{assign body:Code}(hr:E.r=none)(T:aF E.N G g (tV v))(i0:ι)(hO:O=Gj E.P args it Ob v fp::Oi i0)(hit:it (Option Nat×σ) (xm f) (none,dat i0)=some R)(hps: ∀x,ps.length=(args x).length)(hpn:(ps.all fun d=>Nat.blt d E.N.n)=true)(hbody: ∀(i:ι) (x:α) (r:Option Nat×σ),f x (dat i)=some r-> ∀(l:Nat) (rec:Loop) (w1:World) (S1:SH) (B1:Nat->Prop),
   CG ⟨E.P,⟨E.N.n,[]⟩,B1,w1,S1,some l⟩ (Ry ⟨E.P,⟨E.N.n,[]⟩,B1,w1,S1,some l⟩ l body (LJ ⟨E.P,⟨E.N.n,[]⟩,B1,w1,S1,some l⟩ l rec Oi dat jc r)) assign (qQ l rec .ready none::Oi i) (D7 ps (args x) G))(k: ∀i' j,dat i' =R.1.2-> ∀b,(R.1.1=none->AT ⟨E.P,⟨E.N.n,yK b::E.N.ds⟩,E.B,E.w0,E.S0,E.r⟩ Q .normal (GD b::(Ob R.2 j++Oi i')) G)/\
   (∀q,R.1.1=some q->CG ⟨E.P,⟨E.N.n,yK b::E.N.ds⟩,E.B,E.w0,E.S0,E.r⟩ Q (jc q) (GD b::(Ob R.2 j++Oi i')) G)):CG E Q (.rangeFunc g ps.toArray assign body) O G:=fun a w S st=>by
 subst hO
 refine wpIn_rangeFunc fun fn _=>?_
 have hr0:(fw E.r).round=none:=hr
 have hfw:fw E.r=fw none:=by rw [hr]
 rw [hr0]
 obtain⟨rec,hrec⟩: ∃rec:Loop,rec={state:= .ready,pending:=none,fn,tmps:=a.tmps,params:=ps.toArray,assign,body,defers:=w.heap.size}:=⟨_,rfl⟩
 obtain⟨x1,x2,x3⟩:=iy (w:=w) (.deferred (some [])) st.sat
 obtain⟨y1,y2,y3⟩:=iy (w:=w.alloc (.deferred (some []))) (.loop rec) x2
 obtain⟨W1,hW1⟩: ∃W1,(w.alloc (.deferred (some []))).alloc (.loop rec)=W1:=⟨_,rfl⟩
 rw [hW1]at y1 y2
 have hsz:(w.alloc (.deferred (some []))).heap.size=w.heap.size+1:=by simp
 rw [hsz]at y3
 have hext:gU oW w S W1 S:=x1.trans y1
 have hL1:W1.heap[w.heap.size+1]? =some (.loop rec):=by
  rw [<-hW1];have:=World.alloc_heap_new (w.alloc (.deferred (some []))) (.loop rec);rwa [hsz]at this
 have hK1:W1.heap[w.heap.size]? =some (.deferred (some [])):=by
  rw [y1.heap w.heap.size (by omega) (fun h=>h)];exact World.alloc_heap_new w _
 have hW1s:W1.heap.size=w.heap.size+2:=by rw [<-hW1];simp
 have hg' :a.eval g=v:=T S a st.facts
 obtain⟨hit1,hap,hoi⟩:=st.own
 obtain⟨⟨hfp,gf,cap,hv,hcal,hcall⟩,hbase⟩:=hit1
 have hbl:=st.base_le
 have hoi1:dg E.base E.B W1 S (Oi i0):=hoi.ext0 hext
 have hlt: ∀f∈Oi i0,∀k,f.fp k->k<w.heap.size:=fun f X k hk=>f.here (dg.mem hoi f X).1 k hk
 refine⟨w.heap.size+1,[yK w.heap.size],W1,{target:= .fn (.func gf) cap,args:= #[.func (.yield (w.heap.size+1)) #[] #[]]},W1,gf,
  #[.func (.yield (w.heap.size+1)) #[] #[]]++cap,W1,?_,?_,fun _ _=>trivial,?_,fun h=>(by cases h),?_⟩
 ·rw [<-hW1,hrec];exact run_enterLoop_outer _ _ _ _ _
 ·simp only [resolve,hg',hv]
  simp [go_sem]
 ·simp [invoke,go_sem,fE hcal]
 rw [hfw]
 refine mf.2 ?_
 have hyld:RO E.P args (xm f) (fun s e=> ∃i,dat i=s.2/\e=vy S (qQ (w.heap.size+1) rec (Nt s.1) (s.1.map jc)::Oi i)) (.func (.yield (w.heap.size+1)) #[] #[]):=by
  refine⟨_,rfl,?_⟩
  rintro x ⟨j0,s⟩ r hy e ⟨i,hi,rfl⟩ w2 S2 vs hs2 ⟨hle,hown⟩ hvs
  cases j0 with
  |some q=>unfold xm at hy;cases hy
  |none=>
  have hi' :dat i=s:=hi
  subst hi'
  obtain⟨r2,hs2',rfl⟩: ∃r2,f x (dat i)=some r2/\r=(r2.1.isNone,r2):=by
   unfold xm at hy
   cases X:f x (dat i)with
   |none=>simp only [X]at hy;cases hy
   |some s2=>simp only [X]at hy;exact⟨s2,rfl,by simpa using hy.symm⟩
  have hl2:=hown.1.1.2
  have hvl:=hvs.length
  have hyr:=run_yield (P:=E.P) (args:=vs.toArray) hl2 (by rw [hrec];simp [hps x,hvl])
  refine⟨_,_,_,_,hyr,roundIn_of_wpIn trivial ?_⟩
  have hown' :dg 0 oW w2 S2 (qQ (w.heap.size+1) rec .ready none::Oi i):=hown
  have:=hbody i x r2 hs2' (w.heap.size+1) rec w2 S2 (fun k=> ∃f∈qQ (w.heap.size+1) rec .ready none::Oi i,f.fp k)
   {tmps:=(ps.zip vs).foldl (fun t (p:Nat×Value)=>t.setIfInBounds p.1 p.2) a.tmps,defers:=[]} w2 S2
   ⟨gU.refl _ _ _,hs2,mI hown' fun f X k hk=> .inr ⟨f,X,hk⟩,AK ps (args x) vs ⟨a.tmps,[]⟩ G (hps x) hvs hpn ⟨st.facts.size,rfl,fun j t h=>t.mono hle (st.facts.at_ j t h)⟩⟩
  rw [hrec]
  rw [hrec]at this
  rw [za]
  refine wpIn_mono this ?_
  intro e a3 w3 hp
  cases e with
  |normal=>
   obtain⟨w4,hb4,hp4⟩:=hp
   refine⟨w4,hb4,wpIn_mono hp4 ?_⟩
   have hR: ∀en w',LJ ⟨E.P,⟨E.N.n,[]⟩,fun k=> ∃f∈qQ (w.heap.size+1) rec .ready none::Oi i,f.fp k,w2,S2,some (w.heap.size+1)⟩ (w.heap.size+1) rec Oi dat jc r2 en w' ->
     ∃e' S',en= .returned (.bool r2.1.isNone)/\(∃i',dat i' =r2.2/\e' =vy S (qQ (w.heap.size+1) rec (Nt r2.1) (r2.1.map jc)::Oi i'))/\gU (vy S (qQ (w.heap.size+1) rec .ready none::Oi i)).fp w2 S2 w' S' /\jA w' S' /\e'.p w' S' /\ ∀k,e'.fp k->(vy S (qQ (w.heap.size+1) rec .ready none::Oi i)).fp k\/w2.heap.size<=k:=by
    rintro en w' ⟨i',S',Y,J,Z,h4,h5⟩
    exact⟨_,S',Y,⟨i',J,rfl⟩,Z,h4,⟨SH.le_trans hle Z.keep,h5.weak⟩,fun k ⟨f,X,hk⟩=>((dg.mem h5 f X).2 k hk).symm⟩
   rw [hrec]at hR
   intro e5 a5 w5 hp5
   cases e5<;>simp only [roundPost]at hp5 ⊢
   case normal=>obtain⟨v5,w6,Y,J⟩:=hp5;exact⟨v5,w6,Y,hR _ _ J⟩
   case ret=>obtain⟨v5,w6,Y,J⟩:=hp5;exact⟨v5,w6,Y,hR _ _ J⟩
   case exit=>obtain⟨v5,w6,Y,J⟩:=hp5;exact⟨v5,w6,Y,hR _ _ J⟩
   case goto=>obtain⟨v5,w6,Y,J⟩:=hp5;exact⟨v5,w6,Y,hR _ _ J⟩
  |_=>exact hp
 have hrecE:W1.heap[w.heap.size+1]? =some (.loop {rec with state:= .ready,pending:=none}):=by rw [hL1,hrec]
 have he0:(vy S (qQ (w.heap.size+1) rec .ready none::Oi i0)).p W1 S:=⟨SH.le_refl _,⟨⟨y3,hrecE⟩,fun _ _=> .inl (mJ _)⟩,fun f X k hk hfk=>by have:=hlt f X k hfk;have hk' :k=w.heap.size+1:=hk;omega,hoi1.weak⟩
 have hap0: ∀k,(vy S (qQ (w.heap.size+1) rec .ready none::Oi i0)).fp k-> ¬fp k:=by
  rintro k ⟨f,X,hk⟩ hfk
  rcases gB.1 X with rfl|X
  ·have:=hfp k hfk;have hk' :k=w.heap.size+1:=hk;omega
  ·exact hap f X k hfk hk
 refine(hcall oW W1 S hext (fun _ _ h=>h) y2 _ (xm f) (none,dat i0) R hit _ _ hyld _ ⟨i0,rfl,rfl⟩ he0 hap0).mono ?_
 rintro en w2 ⟨e',S2,j,⟨vr,rfl⟩,⟨i',hi',rfl⟩,hx2,hs2,⟨hle2,hown2⟩,hob,hnew,hapo⟩
 have hl2:=hown2.1.1.2
 have hnb: ∀k,(GD w.heap.size).fp k-> ¬((vy S (qQ (w.heap.size+1) rec .ready none::Oi i0)).fp k\/fp k):=by
  rintro k hk h
  have hk' :k=w.heap.size:=hk
  subst hk'
  rcases h with⟨f,X,hfk⟩|h
  ·rcases gB.1 X with rfl|X
   ·have hk' :w.heap.size=w.heap.size+1:=hfk;omega
   ·have:=hlt f X _ hfk;omega
  ·have:=hfp _ h;omega
 have hBin: ∀k,((vy S (qQ (w.heap.size+1) rec .ready none::Oi i0)).fp k\/fp k)->E.w0.heap.size<=k\/E.B k:=by
  rintro k (⟨f,X,hk⟩|h)
  ·rcases gB.1 X with rfl|X
   ·left;have hk' :k=w.heap.size+1:=hk;have:E.w0.heap.size<=w.heap.size:=hbl;omega
   ·exact(dg.mem hoi f X).2 k hk
  ·exact hbase k h
 have hBn: ∀k,((vy S (qQ (w.heap.size+1) rec (Nt R.1.1) (R.1.1.map jc)::Oi i')).fp k\/xd (Ob R.2 j) k)->E.base<=k\/E.B k:=fun k hk=>(hnew k hk).elim (hBin k) (fun h=> .inl (by have Y:E.base<=w.heap.size:=hbl;have J:W1.heap.size<=k:=h;omega))
 have hb2:dg E.base E.B w2 S2 (qQ (w.heap.size+1) rec (Nt R.1.1) (R.1.1.map jc)::(Ob R.2 j++Oi i')):=by
  obtain⟨q1,q2,q3⟩:=hown2
  refine dg.cons ⟨q1.1,fun k hk=>hBn k (.inl ⟨_,mp ..,hk⟩)⟩ (fun f X=>?_) (xu (mI hob fun f X k hk=>hBn k (.inr ⟨f,X,hk⟩)) (mI q3 fun f X k hk=>hBn k (.inl ⟨f,nu _ X,hk⟩)) fun e he f X k hek hfk=>hapo k ⟨f,nu _ X,hfk⟩ ⟨e,he,hek⟩)
  rcases p9.1 X with X|X
  ·exact fun k hk hfk=>hapo k ⟨_,mp ..,hk⟩ ⟨f,X,hfk⟩
  ·exact q2 f X
 have hend:Nt R.1.1≠ .busy:=by unfold Nt;split<;>simp
 obtain⟨z1,z2,z3⟩:=wT (st' := .exhausted) (pd' :=R.1.1.map jc) hb2 hs2
 have hdf:(GD w.heap.size).p W1 S:=⟨x3,hK1⟩
 have RL:(GD w.heap.size).p w2 S2:=(GD w.heap.size).kept hdf hx2 hnb
 have hd3:=(GD w.heap.size).kept RL z1 (fun k hk hkl=>by have Y:k=w.heap.size:=hk;have J:k=w.heap.size+1:=hkl;omega)
 have stE:St ⟨E.P,⟨E.N.n,yK w.heap.size::E.N.ds⟩,E.B,E.w0,E.S0,E.r⟩ (GD w.heap.size::(Ob R.2 j++Oi i')) G {a with defers:=[yK w.heap.size]++a.defers} (w2.putObj (w.heap.size+1) (.loop {rec with state:= .exhausted,pending:=R.1.1.map jc})) S2:=by
  refine⟨((st.ext.step0 hext).step hx2 hBin).step z1 (fun c hc=>z3.1.2 c hc),z2,?_,?_⟩
  ·refine dg.cons ⟨hd3,fun k hk=> .inl (by have Y:k=w.heap.size:=hk;rw [Y];exact hbl)⟩ (fun f X k hk hfk=>?_) z3.2.2
   have Y:k=w.heap.size:=hk
   have J:((vy S (qQ (w.heap.size+1) rec (Nt R.1.1) (R.1.1.map jc)::Oi i')).fp k\/xd (Ob R.2 j) k):=by
    rcases p9.1 X with X|X
    ·exact .inr ⟨f,X,hfk⟩
    ·exact .inl ⟨f,nu _ X,hfk⟩
   rcases hnew k J with h|h
   ·exact hnb k hk h
   ·omega
  ·refine⟨st.facts.size,?_,fun j t hj=>t.mono (SH.le_trans (SH.le_refl S) hle2) (st.facts.at_ j t hj)⟩
   show yK w.heap.size::a.defers=_
   rw [st.facts.defers]
 obtain⟨k1,k2⟩:=k i' j hi' w.heap.size
 refine⟨_,_,run_endLoop hl2 hend,?_⟩
 cases hR1:R.1.1 with
 |none=>
  rw [hR1]at stE
  exact k1 hR1 _ _ S2 stE
 |some q=>
  rw [hR1]at stE
  have:=k2 q hR1 _ _ S2 stE
  show(jc q).wpIn (fw none) 0 E.P Q _ _
  have hE:fw (⟨E.P,⟨E.N.n,yK w.heap.size::E.N.ds⟩,E.B,E.w0,E.S0,E.r⟩:En).r=fw none:=hfw
  rw [hE]at this
  exact this
end

def Ov(l:List (Option Nat×Nat)):OI:={h:=fun n=>l.getD n (none,0)}
def jE(P:Program){A hf ρ:Type}(args:A->List Ty)(Ob:hf->OI->List OE)(res:ρ->Ty)(f:hf->A->Option (ρ×hf)):Ty where
 p:=fun S v=> ∀x y R,f x y=some R-> ∃fid fst cap,v= .func (.func fid) fst cap/\al P fid=true/\ ∀i w S' vs,SH.le S S' ->jA w S' ->tX S' (args y) vs->dg 0 oW w S' (Ob x i)->
  Calls P fid (fst++vs.toArray++cap) w fun en w' => ∃j v S'',en= .returned v/\(res R.1).p S'' v/\gU (xd (Ob x i)) w S' w' S'' /\jA w' S'' /\dg 0 oW w' S'' (Ob R.2 j)/\ ∀k,xd (Ob R.2 j) k->xd (Ob x i) k\/w.heap.size<=k
 mono:=fun h k x y R X=>by
  obtain⟨fid,fst,cap,e,hc,hs⟩:=k x y R X
  exact⟨fid,fst,cap,e,hc,fun i w S' vs hle=>hs i w S' vs (SH.le_trans h hle)⟩
variable{A ρ:Type}{res:ρ->Ty}
def H7{args:A->List Ty}:(jE P args Ob res (fun _ _=>none)).p S v:=fun _ _ _ h=>by cases h
section
section
variable{ty:TypeId}
def pK{args:A->List Ty}{f:hf->A->Option (ρ×hf)}{fid:FuncId}(hc:al E.P fid=true)(hp:aF E.N G p (tV (ax b 0)))(hs: ∀x y R,f x y=some R-> ∀i,fz E.P fid (tV (ax b 0)::args y) (Ob x i) (fun _:OI=>res R.1) (fun j=>Ob R.2 j)):
  bT E O G ⟨dst,.makeFunc (.func fid) #[p] #[],ty,pos,after,g⟩ (jE E.P args Ob res f):= .of_pure fun a w S _ _ X=>by
 have Y:a.eval p=ax b 0:=hp S a X
 refine⟨.func (.func fid) #[ax b 0] #[],by simp [execOp,Instr.makeFunc,Y],fun x y R hR=>⟨fid,#[ax b 0],#[],rfl,hc,fun i w' S' vs _ hsat hv ho=>?_⟩⟩
 have:=hs x y R hR i w' S' (ax b 0::vs) hsat ⟨rfl,hv⟩ ho
 rw [show(#[ax b 0]++vs.toArray++ #[]:Array Value)=(ax b 0::vs).toArray from by simp]
 exact this
end
def Dj{args:A->List Ty}{f:hf->A->Option (ρ×hf)}{x:hf}{y:A}{R:ρ×hf}{i:OI}{ty:TypeId}{fo:Operand}{xs:List Operand}(Or:List OE)(hO:O=Ob x i++Or)(X:aF E.N G fo (jE E.P args Ob res f))(hR:f x y=some R)(I:il E.N G xs (args y))(hpost: ∀j,Ob R.2 j++Or=post j):
  EffOK E O G ⟨some d,.call ⟨.value fo,xs.toArray,ats⟩,ty,pos,after,g⟩ post (fun _=>res R.1):=fun a w S hsat ho hF V=>by
 subst hO
 obtain rfl:(fun j=>Ob R.2 j++Or)=post:=funext hpost
 obtain⟨fid,fst,cap,e,hc,hs⟩:=X S a hF x y R hR
 have hr:(execOp a.eval ⟨some d,.call ⟨.value fo,xs.toArray,ats⟩,ty,pos,after,g⟩).run E.P w= .ok (.enter fid (fst++(xs.map a.eval).toArray++cap)) w:=by
  simp [execOp,resolve,e,Deferred.ofValue,invoke,fE hc]
 refine⟨fun c h=>(by cases h),?_⟩
 rw [hr]
 exact(hs i w S _ (SH.le_refl _) hsat (I.tys hF) (mH ho).1.weak).mono fun en w' ⟨j,v,S',he,hv,Y,J,Z,h4⟩=>⟨_,he,v,S',j,rfl,Y.more fun b ⟨f,X,V⟩=>⟨f,BN _ X,V⟩,J,dg.turn ho V Y Z h4,hv⟩
def nI{t:Ty}{Ob:OI->List OE}{i:OI}(h:fz P f ts O1 (fun _:OI=>t) (fun _=>Ob i)):fz P f ts O1 (fun _:OI=>t) Ob:=fun w S vs hs hv ho=>
 (h w S vs hs hv ho).mono fun _ _ ⟨_,v,S',Y,J,Z,h4,h5,h6⟩=>⟨i,v,S',Y,J,Z,h4,h5,h6⟩
section
variable{t:ι->Ty}{O2:ι->List OE}
def js{rvs:List ResultVar}(hr:fn.results=rvs.toArray)(Y:Nat.beq rvs.length 1=false)(h:IS P ⟨N,[]⟩ G rvs ts)(i:ι)(hO:O=O2 i)(D:t i=tT ts):
  AT ⟨P,⟨N,[]⟩,xd O1,w0,S0,none⟩ (bodyPost P fn (MS ⟨P,⟨N,[]⟩,xd O1,w0,S0,none⟩ O1 t O2)) .ret O G:=fun a w S st=>by
 obtain⟨vs,k1,k2,k3⟩:=h.run st.sat st.facts
 have hne: ¬vs.length=1:=by rw [k3];intro e;rw [e]at Y;cases Y
 refine⟨st.facts.defers,.tuple vs.toArray,?_,HA st rfl i hO (by rw [D];exact⟨vs,rfl,k2⟩)⟩
 have e1:(fn.results.mapM (v7 a.tmps)).run P w= .ok vs.toArray w:=by
  rw [hr,List.mapM_toArray,Sem.run_map,k1]
  rfl
 have e3:results fn a.tmps=((fn.results.mapM (v7 a.tmps))>>=fun vs=>pure (if h:vs.size=1 then vs[0]else .tuple vs)):=rfl
 rw [e3,sW,e1]
 simp [Result.andThen,hne]
end
def RV(u:Value)(t:Ty):Ty where
 p:=fun S v=>v=u/\t.p S u
 mono:=fun h ⟨e,k⟩=>⟨e,t.mono h k⟩
def St.settleP{k:Nat}{x:α}(h:St E (bx r hg b x::O) G a w S)(hk:bM G k=some (tV (ax b 0))): ∃S',St E O ((k,RV (ax b 0) (bC r x))::G) a w S' :=by
 obtain⟨S',Y⟩:=h.settleB hk
 have hv:a.tmps.getD k undef=ax b 0:=h.facts.at_ k _ hk
 refine⟨S',⟨Y.ext,Y.sat,Y.own,⟨Y.facts.size,Y.facts.defers,fun j t hj=>?_⟩⟩⟩
 have hp:(bC r x).p S' (a.tmps.getD k undef):=Y.facts.at_ k _ (by simp [bM])
 by_cases V:Nat.beq k j=true
 ·have e:=nL V
  subst e
  simp only [bM,Nat.beq_refl,cond_true,Option.some.injEq]at hj
  subst hj
  exact⟨hv,by rw [<-hv];exact hp⟩
 ·rw [wC]at V
  have:bM ((k,bC r x)::G) j=some t:=by
   simp only [bM,V,cond_false]at hj ⊢;exact hj
  exact Y.facts.at_ j t this
def wA{x:α}{e:Exit}(k:Nat)(hk:bM G k=some (tV (ax b 0)))(h:AT E Q e O ((k,RV (ax b 0) (bC r x))::G)):AT E Q e (bx r hg b x::O) G:=
 fun a w _ st=>let⟨S',st'⟩:=st.settleP hk;h a w S' st'
def Nc{hs:HL}{x:α}(h:dg base B w S (bx (rH r hs) hg b x::O)):dg base B w S (bx r hg b x::O):=by
 obtain⟨⟨⟨Y,c,J,Z⟩,h4⟩,h5,h6⟩:=h
 exact⟨⟨⟨Y,c,J,Z.1⟩,h4⟩,h5,h6⟩
def yp{hs:HL}{x:α}{e:Exit}(h:AT E Q e (bx r hg b x::O) G):AT E Q e (bx (rH r hs) hg b x::O) G:=fun a w S st=>h a w S (st.own_map Nc)
def xP{N:Fr}{G:jZ}{k:Nat}{u:Value}{t:Ty}(ti:TI P hg 1 bytes false z)(hk:bM G k=some (bC rV u))(hj:bM G j=some (RV u t)):HI P N G (.cell k hg) t:=fun a w S hs X=>by
 obtain⟨v,Y,J⟩:=bf (r:=rV) ti rfl rfl hk a w S hs X
 have Z:=(qg.1 J).1
 subst Z
 obtain⟨_,h4⟩:=X.at_ j _ hj
 exact⟨v,Y,h4⟩
end
variable{et kt:TypeId}{kv:κ->Value}{os:List (Option Nat×Nat)}
section
variable [DecidableEq κ]{k:κ}{i v:Operand}{dst:Option Nat}{ty:TypeId}
def oB{γ:β->Ty}{y:β}(hm:E.P.underlying t=some (.map kt et))(hk:A7 E.P kt kv)(I:aF E.N G x (tV (oG b)))(hi:Cs E.N G i (kv k))(hv:aF E.N G v (γ y))
  (h: ∀os',RG E ops Q rest (pL (yI γ) kv b none os' (eM m k y)::O) G):
  RG E ops Q (⟨none,.insert t x i v,ty,pos,after,none⟩::rest) (pL (yI γ) kv b none os m::O) G:= .of rfl fun a w S st=>by
 have Y:a.eval x=oG b:=I S a st.facts
 have J:a.eval i=kv k:=hi S a st.facts
 have Z:(γ y).p S (a.eval v):=hv S a st.facts
 obtain⟨⟨hp,hfp⟩,hap,hO⟩:=st.own
 obtain⟨hno,hnb,es,clock,e3,e4,hst⟩:=hp
 obtain⟨q,hq,hdk,hinj⟩:=hk
 obtain⟨os1,p1,p2,_⟩:=o5 hdk hinj (k:=k) 0 e4
 have hnb1: ∀o∈os1,o.1≠some b:=fun o ho=>by
  rcases p1 o ho with h|h
  ·exact hnb o h
  ·rw [h];exact fun e=>by cases e
 obtain⟨w',os',r,x1,x2,x3,x4⟩:=B6 (hb:=yI γ) (E:=E) (y:=y) (o:=(none,0)) (val:=a.eval v) st.sat hm ⟨q,hq,hdk,hinj⟩ ⟨hno,hnb1,es,clock,e3,p2,hst⟩ ⟨rfl,Z⟩ (fun e=>by cases e) (fun _ _ _ e=>by cases e)
 have hrun:(execOp a.eval ⟨none,.insert t x i v,ty,pos,after,none⟩).run E.P w= .ok .skip w' :=by simp [execOp,Y,J,r]
 refine⟨fun c h=>(by cases h),?_⟩
 rw [hrun]
 have hfp' : ∀j,(pL (yI γ) kv b none os' (eM m k y)).fp j->(pL (yI γ) kv b none os m).fp j:=fun j hj=>by
  rcases x4 j hj with(h|⟨o,ho,e⟩)|e
  ·exact .inl h
  ·rcases p1 o ho with h|h
   ·exact .inr ⟨o,h,e⟩
   ·rw [h]at e;cases e
  ·cases e
 exact h os' _ _ S ⟨st.ext.step x1 (fun c hc=>hfp c (.inl hc)),x2,⟨⟨x3,fun j hj=>hfp j (hfp' j hj)⟩,fun f X j hj=>hap f X j (hfp' j hj),hO.ext x1 fun f X j hj hjb=>hap f X j (.inl hjb) hj⟩,st.facts⟩
end
def RZ(b:Bool):Option Unit:=if b then some ()else none
def J3{b:Bool}{u:Unit}(h:RZ b=some u):b=true:=by
 unfold RZ at h
 split at h
 ·assumption
 ·cases h

def Ci{κ β:Type}(γ:β->Ty)(kv:κ->Value)(S:SH):List MapEntry->List (κ×β)->Prop
 |[],[]=>True
 |e::es,q::m=>e.key=kv q.1/\(γ q.2).p S e.val/\(∀p∈m,p.1≠q.1)/\Ci γ kv S es m
 |_,_=>False
def wr{κ β:Type}{γ:β->Ty}{kv:κ->Value}{S S' :SH}(h:SH.le S S'): ∀{es:List MapEntry} {m:List (κ×β)},Ci γ kv S es m->Ci γ kv S' es m
 |[],[],_=>trivial
 |_::_,q::_,⟨Y,J,Z,h4⟩=>⟨Y,(γ q.2).mono h J,Z,wr h h4⟩
def KH{κ β:Type} [DecidableEq κ]{γ:β->Ty}{kv:κ->Value}{w:World}{S:SH}: ∀{es:List MapEntry} {os:List (Option Nat×Nat)} {m:List (κ×β)},tS (yI γ) kv w S none es os m->Ci γ kv S es m
 |[],[],[],_=>trivial
 |_::_,_::_,_::_,⟨Y,J,_,h4,h5⟩=>⟨Y,by rw [bn (by simp)]at J;exact J.2,h4,KH h5⟩
def K9{κ β:Type} [DecidableEq κ]{γ:β->Ty}{kv:κ->Value}{w:World}{S:SH}: ∀{es:List MapEntry} {m:List (κ×β)},Ci γ kv S es m->tS (yI γ) kv w S none es (m.map fun _=>(none,0)) m
 |[],[],_=>trivial
 |_::_,_::_,⟨Y,J,Z,h4⟩=>⟨Y,by rw [bn (by simp)];exact⟨rfl,J⟩,fun _ _ _ h=>(by cases h),Z,K9 h4⟩
def Ja{κ β:Type}(γ:β->Ty)(kv:κ->Value)(m:List (κ×β)):Ty where
 p:=fun S v=> ∃b es clock,v=oG b/\S b=some (.map es clock)/\Ci γ kv S es.toList m
 mono:=fun h ⟨b,es,cl,e,Y,J⟩=>by
  obtain⟨o',Z,h4⟩:=h b _ Y
  have h5:o' = .map es cl:=h4
  subst h5
  exact⟨b,es,cl,e,Z,wr h J⟩
section
variable [DecidableEq κ]{k:κ}{i:Operand}{γ:β->Ty}{dst:Option Nat}{ty:TypeId}
def St.settleMp(h:St E (pL (yI γ) kv b none os m::O) G a w S)(hk:bM G j=some (tV (oG b))): ∃S',St E O ((j,Ja γ kv m)::G) a w S' :=by
 obtain⟨⟨hn,_,es,clock,Z,h4,_⟩,_⟩:=h.own.1
 obtain⟨h8,hle,_,_⟩:=s5 h (.inl rfl) Z (qU _) hn
 have hv:a.tmps.getD j undef=oG b:=h.facts.at_ j _ hk
 exact⟨_,h8.cons ⟨b,es,clock,hv,by simp [SH.set],wr hle (KH h4)⟩⟩
def Fq{e:Exit}(j:Nat)(hk:bM G j=some (tV (oG b)))(h:AT E Q e O ((j,Ja γ kv m)::G)):AT E Q e (pL (yI γ) kv b none os m::O) G:=
 fun a w _ st=>let⟨S',st'⟩:=st.settleMp hk;h a w S' st'
end
def PG(P:Program){α β:Type}(args:α->List Ty)(res:β->Ty)(f:α->Option β):Ty where
 p:=fun S v=> ∀x y,f x=some y-> ∃fid cap,v= .func (.func fid) #[] cap/\al P fid=true/\ ∀w S' vs,SH.le S S' ->jA w S' ->tX S' (args x) vs->
  Calls P fid (vs.toArray++cap) w fun e w' => ∃v S'',e= .returned v/\gU oW w S' w' S'' /\jA w' S'' /\(res y).p S'' v
 mono:=fun h k x y hxy=>by
  obtain⟨f,cap,e,hc,k⟩:=k x y hxy
  exact⟨f,cap,e,hc,fun w S' vs hle=>k w S' vs (SH.le_trans h hle)⟩
def Ok{N:Fr}{res:β->Ty}{f:α->Option β}(h:aF N G x (kK P args res f)):aF N G x (PG P args res f):=fun S a X u y hxy=>by
 obtain⟨fid,cap,e,hc,k⟩:=h S a X
 exact⟨fid,cap,e,hc,fun w S' vs=>k u y hxy w S' vs⟩
def LC{res:β->Ty}:(PG P args res (fun _:α=>(none:Option β))).p S v:=fun _ _ h=>by cases h
def Ir{ty:TypeId}{res:β->Ty}{f:α->Option β}{fo:Operand}{x:α}{y:β}{xs:List Operand}(hfo:aF E.N G fo (PG E.P args res f))(h:f x=some y)(I:il E.N G xs (args x)):
  bT E O G ⟨dst,.call ⟨.value fo,xs.toArray,ats⟩,ty,pos,after,g⟩ (res y):=fun a w S hS _ hF=>by
 obtain⟨fid,cap,e,hc,hs⟩:=hfo S a hF x y h
 have hr:(execOp a.eval ⟨dst,.call ⟨.value fo,xs.toArray,ats⟩,ty,pos,after,g⟩).run E.P w= .ok (.enter fid ((xs.map a.eval).toArray++cap)) w:=by
  simp [execOp,resolve,e,Deferred.ofValue,invoke,fE hc]
 refine⟨fun c h=>(by cases h),?_⟩
 rw [hr]
 exact(hs w S _ (SH.le_refl _) hS (I.tys hF)).mono fun e w' ⟨v,S',he,Y,J,Z⟩=>⟨v,he,v,S',rfl,Y,J,Z⟩

section
variable{ty:TypeId}
def Im{s u:Jc}{hi:Operand}{j:Int}(D:E.P.underlying t=some .string)(I:aF E.N G x (H rS s))(hh:aF E.N G hi (H (rI k) j))(hy:dk s 0 j=some u):
  bT E O G ⟨dst,.slice t x none (some hi) none,ty,pos,after,g⟩ (H rS u):= .of_pure fun a w S _ _ X=>by
 have Y:a.eval x= .string ⟨s.toArray⟩:=CL.1 (I S a X)
 have J:a.eval hi= .int k j:=fq.1 (hh S a X)
 obtain⟨l,m,e1,e2,e3,e4,e5⟩:=ft hy
 have el:l=0:=by omega
 subst el e2 e5
 have hsz:(ByteArray.mk s.toArray).size=s.length:=by simp [ByteArray.size]
 have Z:=run_slice_string_h (P:=E.P) w t ⟨s.toArray⟩ D k (m:Int) (by omega) (by rw [hsz];omega)
 refine⟨_,by simp only [execOp,Y,J,Option.map_none,yr,sW,run_sliceAt_string w t _ _ _ _ D,Z,uc,Sem.run_pure];rfl,CL.2 ?_⟩
 congr 1
 apply ByteArray.ext
 simp
end
open Go.MapKept (Stamped)
section
variable [DecidableEq κ]
end
section
variable [DecidableEq κ]{r:Nat}{left:List κ}{cur:Option κ}{k:κ}{i v:Operand}{dst:Option Nat}{ty:TypeId}
end
open Go.RowKit

section
variable{ty:TypeId}
def Iq{ix:Operand}{i:Int}(D:E.P.underlying t=some (.array n e))(ti:TI E.P e sz bytes agg z)(hsz:r.sz=sz)(hag:r.agg=agg)(I:aF E.N G x (H (nQ r n) xs))(hi:aF E.N G ix (H (rI k) i))(hy:cU xs i=some y):bT E O G ⟨dst,.index t x ix,ty,pos,after,g⟩ (H r y):= .of_pure fun a w S _ _ X=>by
 obtain⟨cs,Y,J,Z⟩:=I S a X
 have h1' :a.eval x= .agg cs.toArray:=Y
 have h4:a.eval ix= .int k i:=fq.1 (hi S a X)
 obtain⟨g1,g2⟩:=iT hy
 have hlt:i.toNat<xs.length:=(qr.1 g2).1
 have T:=s9 Z g2
 have hin:0<=i/\i<(n:Int):=⟨g1,by omega⟩
 refine⟨r.val ((cs.drop (i.toNat*r.sz)).take r.sz),?_,_,rfl,T⟩
 have hp:(part e cs.toArray (i.toNat*sz)).run E.P w= .ok (r.val ((cs.drop (i.toNat*r.sz)).take r.sz)) w:=by
  subst hsz
  subst hag
  have hl:=r.len T
  unfold part
  simp only [sW,ti.isAgg,uc]
  cases hA:r.agg with
  |true=>
   simp [ti.sizeOf,Rp.val,hA]
  |false=>
   have Y:=r.sc hA
   rw [Y,Nat.mul_one]at hl ⊢
   cases hd:cs.drop i.toNat with
   |nil=>rw [hd]at hl;simp at hl
   |cons v l=>
    have hv:cs[i.toNat]? =some v:=by
     have:=ue (xs:=cs) (i:=i.toNat) (j:=0)
     rw [hd]at this
     simpa using this.symm
    simp [Rp.val,hA,hv]
 simp [execOp,h1',h4,Instr.index,asIntOf,jB D,hin,ti.sizeOf,hp]

end

abbrev NG:=Nat->(Option Nat×Nat)×(Nat->Option Nat×Nat)
inductive NPl where
 |o
 |i (k:Nat)
 |l (k j:Nat)
section
def RL(q:Nat->Option Nat×Nat)(zs:List (List α)):List Value:=zs.mapIdx fun j z=>aL (q j).1 (q j).2 z.length
def hd1(prj:β->List (List α))(g:NG)(x:List β):List Value:=x.mapIdx fun k y=>aL (g k).1.1 (g k).1.2 (prj y).length
def nsB(prj:β->List (List α))(l:Option Nat)(g:NG)(x:List β)(h:Option (Nat×Nat)):NPl->Option Nat
 | .o=>l
 | .i k=>(x[k]?).bind fun _=>(g k).1.1
 | .l k j=>if h=some (k,j)then none else((x[k]?).bind fun y=>(prj y)[j]?).bind fun _=>((g k).2 j).1
structure nstP(prj:β->List (List α))(r:Rp α)(T1 T2 T3:TypeId)(l:Option Nat)(cap n:Nat)(g:NG)(x:List β)(h:Option (Nat×Nat))(w:World)(S:SH):Prop where
 len:x.length=n
 out:zd false rV T1 l cap (hd1 prj g x) w S
 inn: ∀k y,x[k]? =some y->zd false rV T2 (g k).1.1 (g k).1.2 (RL (g k).2 (prj y)) w S
 lvs: ∀k y j z,x[k]? =some y->(prj y)[j]? =some z->h≠some (k,j)->zd true r T3 ((g k).2 j).1 ((g k).2 j).2 z w S
 inj: ∀s t b,nsB prj l g x h s=some b->nsB prj l g x h t=some b->s=t
variable{prj:β->List (List α)}{T1 T2 T3:TypeId}{l:Option Nat}{g:NG}{x:List β}{h:Option (Nat×Nat)}
end
section
variable{prj:β->List (List α)}{T1 T2 T3:TypeId}{l:Option Nat}{g:NG}{x:List β}{h:Option (Nat×Nat)}
variable{ty:TypeId}{gd:Option (Nat×Bool)}
open Classical in
noncomputable def settleS(w:World)(S:SH)(P:Nat->Prop):SH:=fun b=>if P b then w.heap[b]? else S b
def g0(hs:List (Option Nat×Nat)):NG:=fun k=>(hs.getD k (none,0),fun _=>(none,0))
def tsB(l:Option Nat)(q:Nat->Option Nat×Nat)(zs:List (List α))(h:Option Nat):Option Nat->Option Nat
 |none=>l
 |some j=>if h=some j then none else(zs[j]?).bind fun _=>(q j).1
structure rowP(r:Rp α)(T2 T3:TypeId)(l:Option Nat)(cap n:Nat)(q:Nat->Option Nat×Nat)(zs:List (List α))(h:Option Nat)(w:World)(S:SH):Prop where
 len:zs.length=n
 inn:zd false rV T2 l cap (RL q zs) w S
 lvs: ∀j z,zs[j]? =some z->h≠some j->zd true r T3 (q j).1 (q j).2 z w S
 inj: ∀s t b,tsB l q zs h s=some b->tsB l q zs h t=some b->s=t
variable{q:Nat->Option Nat×Nat}{zs:List (List α)}{k:Option Nat}
end

def BE(es:List Bool)(done:Array Bool):List Nat:=(List.range es.length).filter fun k=>(es[k]?).getD false&&done.getD k false
def Ma(es:List Bool)(i:Nat)(s:List Nat):List Nat:=(List.range es.length).filter fun k=>Nat.beq k i||s.contains k
def Pm:List Nat->List Nat->Bool
 |[],[]=>true
 |a::s,b::t=>Nat.beq a b&&Pm s t
 |_,_=>false
def Gz: ∀{s t:List Nat},Pm s t=true->s=t
 |[],[],_=>rfl
 |a::s,b::t,h=>by
  simp only [Pm,jX]at h
  rw [nL h.1,Gz h.2]
 |[],_::_,h=>by cases h
 |_::_,[],h=>by cases h
def Jd:List (List Nat×((Nat->OI)->List OE))->List Nat->(Nat->OI)->List OE
 |[],_,_=>[]
 |p::r,s,σ=>bif Pm p.1 s then p.2 σ else Jd r s σ
def w8{k:Nat}:k∈BE es done↔es[k]? =some true/\done.getD k false=true:=by
 unfold BE
 rw [vv,List.mem_range,jX]
 constructor
 ·rintro⟨Y,J,Z⟩
  refine⟨?_,Z⟩
  rw [rg Y]at J ⊢
  simpa using J
 ·rintro⟨Y,J⟩
  exact⟨(qr.1 Y).1,by rw [Y];rfl,J⟩
def II{i:Nat}(h:es[i]? =some false):BE es (done.setIfInBounds i true)=BE es done:=by
 unfold BE
 refine List.filter_congr fun k hk=>?_
 by_cases hik:i=k
 ·subst hik;rw [h];rfl
 ·rw [sv false hik]
def MU{i:Nat}(h:es[i]? =some true)(hs:i<done.size):BE es (done.setIfInBounds i true)=Ma es i (BE es done):=by
 unfold Ma
 conv=>lhs;unfold BE
 refine List.filter_congr fun k hk=>?_
 by_cases hik:i=k
 ·subst hik;simp [h,hs]
 ·rw [sv false hik]
  have V:Nat.beq k i=false:=by
   cases V:Nat.beq k i with
   |false=>rfl
   |true=>exact absurd (nL V).symm hik
  rw [V,ug,zn,DF,w8,jX]
  constructor
  ·rintro⟨Y,J⟩
   refine⟨?_,J⟩
   cases he:es[k]? with
   |none=>rw [he]at Y;cases Y
   |some b=>rw [he]at Y;simpa using Y
  ·rintro⟨Y,J⟩
   exact⟨by rw [Y];rfl,J⟩
def BT:List Nat->List (List Nat)
 |[]=>[[]]
 |k::l=>(BT l).map (k:: ·)++BT l
def zb(es:List Bool):List Nat:=(List.range es.length).filter fun k=>(es[k]?).getD false
def uH(p:Nat->Bool): ∀l:List Nat,l.filter p∈BT l
 |[]=>jY.2 rfl
 |k::l=>by
  unfold BT
  rw [p9]
  by_cases h:p k=true
  ·rw [DG h]
   exact .inl (rQ.2 ⟨_,uH p l,rfl⟩)
  ·rw [CC h]
   exact .inr (uH p l)
def KL(es:List Bool)(done:Array Bool):BE es done∈BT (zb es):=by
 have:BE es done=(zb es).filter fun k=>done.getD k false:=by
  unfold BE zb
  rw [List.filter_filter]
  refine List.filter_congr fun k _=>Bool.and_comm ..
 rw [this]
 exact uH _ _
def RW(L:List Oper)(es:List Bool)(i:Nat)(s:List Nat):Bool:=
 s.contains i||(zb es).any fun k=>if s.contains k then lK L L.length k i||(zb es).any fun j=> !s.contains j&&lK L L.length k j else lK L L.length i k
def H2(L:List Oper)(es:List Bool)(i:Nat)(aas:List (List Nat)):Bool:=(BT (zb es)).all fun s=>RW L es i s||aas.any fun a=>Pm a s
def Fp{α:Type}(p:α->Prop):List α->Prop
 |[]=>True
 |a::l=>p a/\Fp p l
def Fp.mem{p:α->Prop}: ∀{l:List α},Fp p l-> ∀a∈l,p a
 |_::_,⟨h,_⟩,_,.head _=>h
 |_::_,⟨_,h⟩,_,.tail _ hm=>Fp.mem h _ hm
abbrev PK:=List (List Nat×((Nat->OI)->List OE))
def DT(E:En)(G:jZ)(L:List Oper)(ts:List TS)(Ss:PK)(es0:List Bool):Nat->List Oper->List Bool->Prop
 |_,[],_=>True
 |i,o::rest,false::es=>(∃(needs:List NS) (t:TS) (aas:List (List Nat)),ts[i]? =some t/\tL G ts needs/\(needs.all fun n=>lQ L o i (n.at fun _=>qt))=true/\dF i o=true/\IJ L es0 i t=true/\H2 L es0 i aas=true/\o.dst.isSome=true/\
   Fp (fun s=> ∀σ,bQ E (Jd Ss s σ) L.toArray (tH needs σ) o (t.at σ)) aas)/\DT E G L ts Ss es0 (i+1) rest es
 |i,o::rest,true::es=>(∃(needs:List NS) (t:TS) (aas:List (List Nat×List Nat)),ts[i]? =some t/\tL G ts needs/\(needs.all fun n=>lQ L o i (n.at fun _=>qt))=true/\dF i o=true/\IJ L es0 i t=true/\H2 L es0 i (aas.map (·.1))=true/\(aas.all fun p=>Pm (Ma es0 i p.1) p.2)=true/\
   Fp (fun p:List Nat×List Nat=> ∀σ,mn E L.toArray (Jd Ss p.1 σ) (tH needs σ) o (fun x=>Jd Ss p.2 (Fu σ i x)) (fun x=>t.at (Fu σ i x))) aas)/\DT E G L ts Ss es0 (i+1) rest es
 |_,_::_,[]=>False
def DT.get{ts:List TS}{Ss:PK}{es0:List Bool}: ∀(r:List Oper) (es:List Bool) (k:Nat),DT E G L ts Ss es0 k r es-> ∀(j:Nat) (o:Oper),r[j]? =some o->
    ∃e,es[j]? =some e/\ ∃(needs:List NS) (t:TS),ts[k+j]? =some t/\tL G ts needs/\(needs.all fun n=>lQ L o (k+j) (n.at fun _=>qt))=true/\dF (k+j) o=true/\IJ L es0 (k+j) t=true/\
      (match e with
       |false=>o.dst.isSome=true/\ ∃aas,H2 L es0 (k+j) aas=true/\Fp (fun s=> ∀σ,bQ E (Jd Ss s σ) L.toArray (tH needs σ) o (t.at σ)) aas
       |true=> ∃aas:List (List Nat×List Nat),H2 L es0 (k+j) (aas.map (·.1))=true/\(aas.all fun p=>Pm (Ma es0 (k+j) p.1) p.2)=true/\Fp (fun p:List Nat×List Nat=> ∀σ,mn E L.toArray (Jd Ss p.1 σ) (tH needs σ) o (fun x=>Jd Ss p.2 (Fu σ (k+j) x)) (fun x=>t.at (Fu σ (k+j) x))) aas):=by
  intro r
  induction r with
  |nil=>intro es k _ j o h;simp at h
  |cons p r ih=>
    intro es k h j o ho
    cases es with
    |nil=>exact h.elim
    |cons e es=>
      cases e with
      |false=>
        obtain⟨⟨needs,t,aas,g1,g2,g3,g4,g5,g6,g7,g8⟩,J⟩:=h
        cases j with
        |zero=>
          simp at ho;subst ho
          exact⟨false,rfl,needs,t,g1,g2,g3,g4,g5,g7,aas,g6,g8⟩
        |succ j=>
          obtain⟨e',g1,g2⟩:=ih es (k+1) J j o (by simpa using ho)
          refine⟨e',by simpa using g1,?_⟩
          rw [show k+1+j=k+(j+1)from by omega]at g2
          exact g2
      |true=>
        obtain⟨⟨needs,t,aas,g1,g2,g3,g4,g5,g6,g7,g8⟩,J⟩:=h
        cases j with
        |zero=>
          simp at ho;subst ho
          exact⟨true,rfl,needs,t,g1,g2,g3,g4,g5,aas,g6,g7,g8⟩
        |succ j=>
          obtain⟨e',g1,g2⟩:=ih es (k+1) J j o (by simpa using ho)
          refine⟨e',by simpa using g1,?_⟩
          rw [show k+1+j=k+(j+1)from by omega]at g2
          exact g2
structure NU(E:En)(G:jZ)(l:List Oper)(ts:List TS)(Ss:PK)(es:List Bool)(done:Array Bool)(a:Act)(w:World)(S:SH)(σ:Nat->OI):Prop where
 ext:gU E.B E.w0 E.S0 w S
 sat:jA w S
 own:dg E.base E.B w S (Jd Ss (BE es done) σ)
 size:a.tmps.size=E.N.n
 defers:a.defers=E.N.ds
 dsz:done.size=l.length
 down: ∀j o,l[j]? =some o->done.getD j false=true-> ∀e∈o.after,Region.binds .any e=true->done.getD e.on false=true
 old: ∀k t,bM G k=some t->(∀j o,l[j]? =some o->done.getD j false=true->o.dst≠some k)->t.p S (a.tmps.getD k undef)
 new: ∀j o d p,l[j]? =some o->done.getD j false=true->o.dst=some d->ts[j]? =some p->(p.at σ).p S (a.tmps.getD d undef)
 deps: ∀j p,done.getD j false=true->ts[j]? =some p-> ∀k∈p.1,done.getD k false=true
section
variable{ts:List TS}{Ss:PK}
def NU.need(h:NU E G L ts Ss es done a w S σ){i:Nat}(hi:L[i]? =some o)(hun:done.getD i true=false)(hwait: ∀e∈o.after,Region.binds .any e=true->done.getD e.on false=true){needs:List NS}(Y:tL G ts needs)(J:(needs.all fun n=>lQ L o i (n.at fun _=>qt))=true):cW E.N S a (tH needs σ):=by
 have hlt:i<done.size:=by rw [h.dsz];exact(qr.1 hi).1
 have hun' :done.getD i false=false:=by
  simp [hlt]at hun ⊢;exact hun
 refine⟨h.size,h.defers,?_⟩
 have key: ∀n∈needs,(n.ty σ).p S (a.tmps.getD n.slot undef):=by
  intro n hn
  have hs:=jV.1 J n hn
  have ho:=Y.mem n hn
  unfold lQ NS.at at hs
  unfold Nn at ho
  cases hsrc:n.src with
  |some j=>
   rw [hsrc]at hs ho
   simp only [jX]at hs
   obtain⟨hs1,hs2⟩:=hs
   cases hj:L[j]? with
   |none=>rw [hj]at hs1;cases hs1
   |some p=>
    rw [hj]at hs1
    cases hd:p.dst with
    |none=>simp only [hd]at hs1;cases hs1
    |some d=>
     simp only [hd]at hs1
     have hd' :=nL hs1
     subst hd'
     have hdone:done.getD j false=true:=by
      unfold yz at hs2
      obtain⟨e,he0,V⟩:=vJ.1 hs2
      have he:e∈o.after:=by simpa using he0
      simp only [jX]at V
      have:=hwait e he V.2
      rwa [nL V.1]at this
     have hm:=ho σ
     cases X:ts[j]? with
     |none=>rw [X]at hm;simp at hm
     |some f=>
      rw [X]at hm
      have e:f.at σ=n.ty σ:=by simpa using hm
      rw [<-e]
      exact h.new j p n.slot f hj hdone hd X
  |none=>
   rw [hsrc]at hs ho
   refine h.old _ _ (ho σ) fun j p hj hdone hd=>?_
   have:=jV.1 hs p (sm hj)
   simp only [hd,Nat.beq_refl,mq,ug]at this
   unfold yz at this
   obtain⟨e,he0,V⟩:=vJ.1 this
   have he:e∈p.after:=by simpa using he0
   simp only [jX]at V
   have Z:=h.down j p hj hdone e he V.2
   rw [nL V.1]at Z
   rw [Z]at hun'
   cases hun'
 clear Y J
 intro k t hk
 unfold tH at hk
 induction needs with
 |nil=>simp [g9,bM]at hk
 |cons n needs ih=>
  simp only [py]at hk
  unfold g9 bM at hk
  by_cases V:Nat.beq n.slot k=true
  ·have hb' :Nat.beq (n.at σ).slot k=true:=V
   rw [hb']at hk
   have:=nL V
   subst this
   have h9:some (n.at σ).ty=some t:=by simpa using hk
   have e:n.ty σ=t:=qa h9
   rw [<-e]
   exact key n (mp ..)
  ·rw [wC]at V
   have hb' :Nat.beq (n.at σ).slot k=false:=V
   rw [hb']at hk
   exact ih (fun m hm=>key m (nu _ hm)) hk
def NU.step{σ' :Nat->OI}(h:NU E G L ts Ss es done a w S σ){i:Nat}{p0:TS}{C:Nat->Prop}(hi:L[i]? =some o)(hdN: ∀d,o.dst=some d->d<E.N.n)(hs2: ∀d,o.dst=some d-> ∀j p,L[j]? =some p->done.getD j false=true->p.dst=some d->i=j)(hwait: ∀e∈o.after,Region.binds .any e=true->done.getD e.on false=true)(D:ts[i]? =some p0)(hun:done.getD i true=false)(hdep: ∀k∈p0.1,k=i\/done.getD k false=true)(hext:gU C w S w' S')(hC: ∀b,C b->E.base<=b\/E.B b)(hsat:jA w' S')(hown:dg E.base E.B w' S' (Jd Ss (BE es (done.setIfInBounds i true)) σ'))(hσ: ∀k,k≠i->σ' k=σ k)(hv:(p0.at σ').p S' v):
  NU E G L ts Ss es (done.setIfInBounds i true) (a.put o.dst v) w' S' σ' :=by
 have hlt:i<done.size:=by rw [h.dsz];exact(qr.1 hi).1
 have hset: ∀j,(done.setIfInBounds i true).getD j false=true->j=i\/done.getD j false=true:=fun j hj=>by
  by_cases hij:i=j
  ·exact .inl hij.symm
  ·rw [sv false hij]at hj;exact .inr hj
 have hseti:(done.setIfInBounds i true).getD i false=true:=by simp [hlt]
 have hun' :done.getD i false=false:=by simp [hlt]at hun ⊢;exact hun
 have hput: ∀k,(∀d,o.dst=some d->d≠k)->(a.put o.dst v).tmps.getD k undef=a.tmps.getD k undef:=fun k hk=>by
  cases hd:o.dst with
  |none=>rfl
  |some d=>
   have hda:d<a.tmps.size:=by rw [h.size];exact hdN d hd
   rw [pl hda,bn (hk d hd)]
 refine⟨h.ext.step hext hC,hsat,hown,?_,?_,by simp [h.dsz],fun j p hj hdone e he V=>?_,fun k u hk hno=>?_,fun j p d' u hj hdone hd' hu=>?_,fun j u hj hu k hk=>?_⟩
 ·cases o.dst with
  |none=>exact h.size
  |some d=>simp [Act.put,h.size]
 ·cases o.dst with
  |none=>exact h.defers
  |some d=>exact h.defers
 ·rcases hset j hdone with rfl|hj'
  ·rw [hi]at hj
   have:o=p:=by simpa using hj
   subst this
   exact sX (hwait e he V)
  ·exact sX (h.down j p hj hj' e he V)
 ·rw [hput k fun d hd e=>hno i o hi hseti (by rw [hd,e])]
  exact u.mono hext.keep (h.old k u hk fun j p hj hdone=>hno j p hj (sX hdone))
 ·by_cases hij:j=i
  ·subst hij
   rw [hi]at hj
   have:o=p:=by simpa using hj
   subst this
   have hda:d' <a.tmps.size:=by rw [h.size];exact hdN d' hd'
   rw [hd',pl hda,bE rfl]
   rw [D]at hu
   have:p0=u:=by simpa using hu
   subst this
   exact hv
  ·have hj' :=(hset j hdone).resolve_left hij
   rw [hput d' fun d hd e=>by subst e;exact hij (hs2 d hd j p hj hj' hd').symm]
   have e1:u.at σ' =u.at σ:=congrArg u.2 (Bn fun k hk=>hσ k fun e=>by
     subst e
     rw [h.deps j u hj' hu k hk]at hun';cases hun')
   rw [e1]
   exact Ty.mono _ hext.keep (h.new j p d' u hj hj' hd' hu)
 ·rcases hset j hj with rfl|hj'
  ·rw [D]at hu
   have:p0=u:=by simpa using hu
   subst this
   rcases hdep k hk with rfl|h'
   ·exact hseti
   ·exact sX h'
  ·exact sX (h.deps j u hj' hu k hk)
end
def DK{l t:List Oper}{ts:List TS}{Ss:PK}(hsl:ul E.N.n [] l=true)(hlen:ts.length=l.length)(hesl:es.length=l.length)(hd:DT E G (l++t) ts Ss es 0 l es)(D:vx (l++t) l.length t.length=true)(hQ: ∀a w S σ,St E (Jd Ss (zb es) σ) (Ee l (Lh ts σ) G) a w S->wpListIn (fw E.r) 0 E.P (l++t).toArray Q t a w):
  ∀(fuel:Nat) (done:Array Bool) (a:Act) (w:World) (S:SH) (σ:Nat->OI),jP done=fuel->(∀j,l.length<=j->done.getD j false=false)->NU E G (l++t) ts Ss es done a w S σ->wpAnyIn (fw E.r) 0 E.P .any (l++t).toArray Q fuel done a w:=by
 have hL1: ∀i o,i<l.length->(l++t)[i]? =some o->l[i]? =some o:=fun i o hi h=>by rwa [vi hi]at h
 have hL2: ∀i o,l[i]? =some o->(l++t)[i]? =some o:=fun i o h=>by rw [vi (qr.1 h).1];exact h
 have htail: ∀m o,l.length<=m->(l++t)[m]? =some o->tt (l++t) m=true/\dF m o=true:=fun m o hm ho=>by
  have hml:m<(l++t).length:=(qr.1 ho).1
  rw [jO]at hml
  unfold vx at D
  have:=jV.1 D (m-l.length) (by simp;omega)
  rw [show l.length+(m-l.length)=m from by omega,ho]at this
  simp only [jX]at this
  exact⟨this.1,this.2.1⟩
 have hget:=fun i o (hi:l[i]? =some o)=>DT.get l es 0 hd i o hi
 have hedge: ∀i o,(l++t)[i]? =some o->dF i o=true:=fun i o hi=>by
  rcases lz i l.length with h|h
  ·obtain⟨_,_,_,_,_,_,_,h,_⟩:=hget i o (hL1 i o h hi)
   simpa using h
  ·exact(htail i o h hi).2
 obtain⟨hs1,hs2⟩:=yB l [] hsl
 have fin: ∀fuel done a w S σ,jP done=fuel->(∀j,l.length<=j->done.getD j false=false)->NU E G (l++t) ts Ss es done a w S σ->(∀i,i<l.length->done.getD i false=true)->wpAnyIn (fw E.r) 0 E.P .any (l++t).toArray Q fuel done a w:=by
  intro fuel done a w S σ hu hfree h hall
  have hdn:BE es done=zb es:=by
   unfold BE zb
   refine List.filter_congr fun k hk=>?_
   rw [hall k (by rw [<-hesl];exact List.mem_range.1 hk),zw]
  have hown:=h.own
  rw [hdn]at hown
  refine vQ (n:=l.length) (fun m o hm ho=>(htail m o hm ho).1) hedge t l.length done fuel a w (dr _) (by simp) h.dsz (fun j hj=>⟨fun hjd=>?_,fun hlt=>hall j hlt⟩) hu
   (hQ a w S σ ⟨h.ext,h.sat,hown,h.size,h.defers,fun j u hj=>?_⟩)
  ·rcases lz j l.length with h' |h'
   ·exact h'
   ·rw [hfree j h']at hjd;cases hjd
  ·rcases B9 l (Lh ts σ) j u (by unfold Lh;rw [zp];exact hlen) hj with⟨i,o,Y,J,Z⟩|⟨Y,J⟩
   ·unfold Lh at Z
    rw [yw]at Z
    cases X:ts[i]? with
    |none=>rw [X]at Z;simp at Z
    |some f=>
     rw [X]at Z
     have e:f.at σ=u:=by simpa using Z
     rw [<-e]
     exact h.new i o j f (hL2 i o Y) (hall i (qr.1 Y).1) J X
   ·refine h.old j u Y fun i o ho hdn=>?_
    rcases lz i l.length with h' |h'
    ·exact J o (sm (hL1 i o h' ho))
    ·rw [hfree i h']at hdn;cases hdn
 have lower: ∀done a w S σ i,(∀j,l.length<=j->done.getD j false=false)->NU E G (l++t) ts Ss es done a w S σ->i∈Region.ready .any (l++t).toArray done->l.length<=i-> ∀j,j<l.length->done.getD j false=true:=by
  intro done a w S σ i hfree h hi hge j hj
  obtain⟨hun,p,hp,hwait⟩:=qD.1 hi
  have hp' :(l++t)[i]? =some p:=by simpa using hp
  have hcov:=(htail i p hge hp').1
  unfold tt at hcov
  have hre:=jV.1 hcov j (by simp;omega)
  exact fH h.down _ i j (fun q hq e he V=>by
   have:q=p:=by rw [hp']at hq;simpa using hq.symm
   subst this
   exact hwait e he V) hre
 intro fuel
 induction fuel with
 |zero=>
  intro done a w S σ hu hfree h
  exact fin 0 done a w S σ hu hfree h fun i hi=>rl hu (by rw [h.dsz,jO];omega)
 |succ fuel ih=>
  intro done a w S σ hu hfree h
  by_cases hall: ∀i,i<l.length->done.getD i false=true
  ·exact fin _ done a w S σ hu hfree h hall
  have hready0: ∀m i,i<m->i<l.length->Region.ready .any (l++t).toArray done=[]->done.getD i false=true:=by
   intro m
   induction m with
   |zero=>intro i h;omega
   |succ m ihm=>
    intro i him hil hr
    have his:i<done.size:=by rw [h.dsz,jO];omega
    by_cases hdn:done.getD i true=true
    ·rw [<-mD his];exact hdn
    ·exfalso
     obtain⟨o,ho⟩: ∃o,(l++t)[i]? =some o:=⟨l[i],hL2 i _ (rg hil)⟩
     have hmem:i∈Region.ready .any (l++t).toArray done:=by
      rw [qD]
      refine⟨by simpa using hdn,o,by simpa using ho,fun e he V=>?_⟩
      have:=hedge i o ho
      unfold dF at this
      have:=jV.1 this e (by simpa using he)
      simp only [V,mq,ug,tM]at this
      exact ihm e.on (by omega) (by omega) hr
     rw [hr]at hmem;cases hmem
  refine⟨fun hr=>absurd (fun i hi=>hready0 (i+1) i (by omega) hi hr) hall,fun i hi=>?_⟩
  have hil:i<l.length:=by
   rcases lz i l.length with h' |h'
   ·exact h'
   ·exact absurd (lower done a w S σ i hfree h hi h') hall
  obtain⟨hun,o,ho,hwait⟩:=qD.1 hi
  have ho' :(l++t)[i]? =some o:=by simpa using ho
  have hol:=hL1 i o hil ho'
  obtain⟨e,he,needs,u,Y,J,Z,_,h4,h5⟩:=hget i o hol
  rw [pS]at Y Z h4
  have hF:=h.need ho' hun hwait J Z
  have his:i<done.size:=by rw [h.dsz,jO];omega
  have hun' :done.getD i false=false:=by rw [<-mD his];exact hun
  have hu' :jP (done.setIfInBounds i true)=fuel:=by have:=oN hun;omega
  have huq: ∀d,o.dst=some d-> ∀j p,(l++t)[j]? =some p->done.getD j false=true->p.dst=some d->i=j:=fun d hdd j p hj hjd hpd=>by
   rcases lz j l.length with h' |h'
   ·exact hs2 i j o p d hol (hL1 j p h' hj) hdd hpd
   ·rw [hfree j h']at hjd;cases hjd
  have hfree' : ∀j,l.length<=j->(done.setIfInBounds i true).getD j false=false:=fun j hj=>by
   rw [sv false (by omega)];exact hfree j hj
  have hbl:E.base<=w.heap.size:=h.ext.size
  have hwaits: ∀q,(l++t)[i]? =some q-> ∀e∈q.after,Region.binds .any e=true->done.getD e.on false=true:=fun q hq e he V=>by
   have:q=o:=by rw [ho']at hq;simpa using hq.symm
   subst this
   exact hwait e he V
  have hdpp: ∀k∈u.1,k=i\/done.getD k false=true:=fun k hk=>by
   have:=jV.1 h4 k hk
   simp only [jX,wB]at this
   rcases this.2 with V|V
   ·exact .inl (nL V)
   ·exact .inr (fH h.down _ i k hwaits V)
  have hdNN: ∀d,o.dst=some d->d<E.N.n:=fun d hd=>(hs1 o (sm hol) d hd).1
  unfold wpOpIn
  rw [ho]
  show if _ then _ else _
  -- just these effects stand
  have hpos:RW (l++t) es i (BE es done)=false:=by
   rw [Cy]
   intro hno
   unfold RW at hno
   rw [wB]at hno
   rcases hno with hc|hc
   ·have:=(w8.1 (DF.1 hc)).2
    rw [this]at hun';cases hun'
   ·obtain⟨k,hk1,hk2⟩:=vJ.1 hc
    have hke:es[k]? =some true:=by
     unfold zb at hk1
     rw [vv,List.mem_range]at hk1
     have h7:=hk1.2
     rw [rg hk1.1]at h7 ⊢
     simpa using h7
    by_cases hin:(BE es done).contains k=true
    ·rw [bE hin,wB]at hk2
     have hkd:=(w8.1 (DF.1 hin)).2
     rcases hk2 with V|V
     ·have:=fH h.down _ k i (fun q hq e he V=>h.down k q hq hkd e he V) V
      rw [this]at hun';cases hun'
     ·obtain⟨j,hj1,hj2⟩:=vJ.1 V
      rw [jX,yu]at hj2
      have hje:es[j]? =some true:=by
       unfold zb at hj1
       rw [vv,List.mem_range]at hj1
       have h7:=hj1.2
       rw [rg hj1.1]at h7 ⊢
       simpa using h7
      have hjd:=fH h.down _ k j (fun q hq e he V=>h.down k q hq hkd e he V) hj2.2
      have:=DF.2 (w8.2 ⟨hje,hjd⟩)
      rw [hj2.1]at this;cases this
    ·rw [bn hin]at hk2
     have hkd:=fH h.down _ i k hwaits hk2
     exact hin (DF.2 (w8.2 ⟨hke,hkd⟩))
  have hwin: ∀aas:List (List Nat),H2 (l++t) es i aas=true->BE es done∈aas:=by
   intro aas hw
   unfold H2 at hw
   have:=jV.1 hw _ (KL es done)
   rw [hpos,ug]at this
   obtain⟨b,hb1,hb2⟩:=vJ.1 this
   rw [<-Gz hb2];exact hb1
  cases e with
  |false=>
   simp only at h5
   obtain⟨hdS,aas,hw,h5⟩:=h5
   rw [pS]at hw
   obtain⟨d,hdd⟩:=DH.1 hdS
   have h6:=h5.mem _ (hwin aas hw) σ a w S h.sat h.own hF
   have hdq:=II (done:=done) he
   by_cases hw:Region.wanted o (yielded (l++t).toArray a.tmps)=true
   ·rw [bE hw]at h6 ⊢
    refine jD (fun a' w' ⟨v,S',ha,I,hs,hv⟩=>?_) h6
    subst ha
    exact ih _ _ _ S' _ hu' hfree' (h.step ho' hdNN huq hwait Y hun hdpp I (fun _ V=>V.elim) hs (by rw [hdq];exact h.own.ext0 I) (fun _ _=>rfl) hv)
   ·rw [bn hw]at h6 ⊢
    exact⟨fun _ _=>trivial,ih _ _ _ S _ hu' hfree' (h.step ho' hdNN huq hwait Y hun hdpp (gU.refl oW _ _) (fun _ V=>V.elim) h.sat (by rw [hdq];exact h.own) (fun _ _=>rfl) h6)⟩
  |true=>
   simp only [pS]at h5
   obtain⟨aas,hw,hins,h5⟩:=h5
   obtain⟨p,hp1,hp2⟩:=rQ.1 (hwin _ hw)
   have hp3:=Gz (jV.1 hins p hp1)
   have h6:=h5.mem p hp1 σ a w S h.sat (by rw [hp2];exact h.own) hF hbl
   have hdq:BE es (done.setIfInBounds i true)=p.2:=by rw [MU he his,<-hp2,hp3]
   by_cases hw:Region.wanted o (yielded (l++t).toArray a.tmps)=true
   ·rw [bE hw]at h6 ⊢
    refine jD (fun a' w' ⟨v,S',x,ha,I,hs,hown,hv⟩=>?_) h6
    subst ha
    exact ih _ _ _ S' _ hu' hfree' (h.step ho' hdNN huq hwait Y hun hdpp I (fun b ⟨f,X,V⟩=>(dg.mem h.own f (by rw [<-hp2];exact X)).2 b V) hs (by rw [hdq];exact hown) (fun k hk=>zL σ x hk) hv)
   ·rw [bn hw]at h6 ⊢
    obtain⟨x,hown,hv⟩:=h6
    exact⟨fun _ _=>trivial,ih _ _ _ S _ hu' hfree' (h.step ho' hdNN huq hwait Y hun hdpp (gU.refl oW _ _) (fun _ V=>V.elim) h.sat (by rw [hdq];exact hown) (fun k hk=>zL σ x hk) hv)⟩
def Fo{id:Nat}(m:Nat)(ts:List TS)(es:List Bool)(Ss:PK)(hO: ∀σ,Jd Ss [] σ=O)(hm:E.P.follows .mixedOrders=true)(hsl:ul E.N.n [] (L.take m)=true)(hlen:ts.length=(L.take m).length)(hesl:es.length=(L.take m).length)(D:vx L (L.take m).length (L.drop m).length=true)(hd:DT E G L ts Ss es 0 (L.take m) es)(k: ∀σ:Nat->OI,RG E L.toArray Q (L.drop m) (Jd Ss (zb es) σ) (Ee (L.take m) (Lh ts σ) G)):CG E Q (.region id L.toArray true) O G:=fun a w S st=>by
 have hL:L=L.take m++L.drop m:=(sn m L).symm
 generalize L.take m=l at hL hsl hlen hesl D hd k
 generalize L.drop m=t at hL D k
 subst hL
 refine wpIn_region_any hm ?_
 obtain⟨he,hs⟩:=uP (w:=w) st.sat
 have hdn0:BE es (Array.replicate (l++t).toArray.size false)=[]:=by
  unfold BE
  refine List.filter_eq_nil_iff.2 fun k hk=>?_
  simp [vK]
  intro _
  split<;>simp
 refine DK hsl hlen hesl hd D (fun a w S σ st=>k σ a w S st) _ _ _ _ S (fun _=>qt) ?_ (fun j _=>?_)
  ⟨st.ext.step0 he,hs,by rw [hdn0,hO];exact st.own.ext0 he,st.facts.size,st.facts.defers,by simp,fun j o hj hdone=>?_,fun k t hk _=>st.facts.at_ k t hk,fun j o d t hj hdone=>?_,fun j p hdone=>?_⟩
 ·unfold jP;rw [G3,G1];simp
 ·simp [vK];split<;>rfl
 ·simp [vK]at hdone
  split at hdone<;>simp at hdone
 ·simp [vK]at hdone
  split at hdone<;>simp at hdone
 ·simp [vK]at hdone
  split at hdone<;>simp at hdone

def dg.perm(h:O.Perm O'):dg base B w S O->dg base B w S O' :=by
 induction h with
 |nil=>exact id
 |cons x p ih=>
  rintro⟨Y,J,Z⟩
  exact⟨Y,fun f X=>J f (p.mem_iff.2 X),ih Z⟩
 |swap x y l=>
  rintro⟨Y,J,Z,h4,h5⟩
  refine⟨Z,fun f X k hk hfk=>?_,Y,fun f X=>J f (nu _ X),h5⟩
  rcases gB.1 X with rfl|X
  ·exact J x (mp ..) k hfk hk
  ·exact h4 f X k hk hfk
 |trans _ _ ih1 ih2=>exact fun k=>ih2 (ih1 k)
def rr(O:List OE):List Nat->List OE
 |[]=>[]
 |i::l=>match O[i]? with
  |some e=>e::rr O l
  |none=>rr O l
def wS(O:List OE): ∀a b:List Nat,rr O (a++b)=rr O a++rr O b
 |[],_=>rfl
 |i::a,b=>by
  simp only [xA,rr]
  split<;>simp [wS O a b]
def F0{a b:List Nat}(h:a.Perm b):(rr O a).Perm (rr O b):=by
 induction h with
 |nil=>exact .nil
 |cons x p ih=>
  simp only [rr]
  split
  ·exact .cons _ ih
  ·exact ih
 |swap x y l=>
  simp only [rr]
  cases I:O[x]? <;>cases hy:O[y]? <;>simp<;>exact .swap ..
 |trans _ _ ih1 ih2=>exact ih1.trans ih2
def Eb(O:List OE):rr O (List.range O.length)=O:=by
 have key: ∀n,n<=O.length->rr O (List.range n)=O.take n:=by
  intro n
  induction n with
  |zero=>intro _;rfl
  |succ n ih=>
   intro h
   rw [List.range_succ,wS,ih (by omega)]
   simp only [rr]
   rw [rg (by omega),HW (by omega)]
 rw [key _ (dr _),zr]
def dg.pick(l:List Nat)(hl:l.isPerm (List.range O.length)=true)(h:dg base B w S O):dg base B w S (rr O l):=
 h.perm (by
  have:=F0 (O:=O) (List.isPerm_iff.1 hl)
  rw [Eb]at this
  exact this.symm)

def zY{xs:List β}{v:β}{i:Int}(hi:0<=i/\i<(n:Int)):oz (nQ q n) (nQ q n) (i.toNat*q.sz) q xs v (xs.set i.toNat v):=fun S cs ds ⟨Y,J⟩ hd=>
 ⟨by rw [BJ];exact Y,wO hd J (by omega)⟩
section
section
variable{ty:TypeId}
end
def lL{ty:TypeId}{l:Option Nat}{o:Nat}{j:Int}(hm:jS mm r U l cap xs∈O)(hy:cU xs j=some y)(hp:aF E.N G p (tV (jn l o))):
  bT E O G ⟨dst,.nilCheck p,ty,pos,after,g⟩ (tV (jn l o)):=
 .of_pure fun a w S _ ho hF=>by
  have Y:a.eval p=jn l o:=hp S a hF
  obtain⟨_,hy'⟩:=iT hy
  obtain⟨b,cur,rfl,_⟩:=pI (ho.mem _ hm).1 hy'
  exact⟨jn (some b) o,by simp [execOp,Y,jn,ax],rfl⟩
end
open Go.ChangeShapes Go.WideShapes Go.ChangeAt

variable{tD:Type}{W:World}{enc:TypeId×Value->tD}
section
def Eu(W:World):SH:=fun b=>W.heap[b]?
def On(W:World)(T: ∀p∈Qt,∃c hg fr,W.heap[p.1]? =some (.cells c hg fr)/\c.toList.take p.2.length=p.2)(D: ∀w' :World,(∀(b:Nat) (o:Obj),W.heap[b]? =some o-> ∃o',w'.heap[b]? =some o' /\Eg o o')->Qg w'):jA W (Eu W):=⟨fun _ o h=>⟨o,h,qU o⟩,T,D⟩
def xo(enc:TypeId×Value->tD)(P:Program)(W:World){α:Type}(t:TypeId)(r:Rp α):Prop:=
 P.cellsOf t=r.sz/\ ∀fuel cs x,DataW.trod enc P W 0 (fun _=>true) true fuel t cs=some x-> ∃y,r.rc (Eu W) cs y
def Jr(h:P.underlying t=some .bool)(hc:P.cellsOf t=1):xo enc P W t rB:=⟨hc,fun fuel cs x I=>by
 cases fuel with
 |zero=>simp [DataW.trod]at I
 |succ n=>
  unfold DataW.trod at I
  rw [h]at I
  split at I
  all_goals try (injections;done)
  ·exact⟨_,rfl⟩⟩
def sL{α β:Type}{f:α->Option β}: ∀{l:List α} {r:List β},l.mapM f=some r->r.length=l.length/\ ∀(i:Nat) (x:α),l[i]? =some x-> ∃y,r[i]? =some y/\f x=some y
 |[],r,h=>by
  simp at h
  subst h
  exact⟨rfl,fun i x I=>by simp at I⟩
 |a::l,r,h=>by
  rw [List.mapM_cons]at h
  cases X:f a with
  |none=>rw [X]at h;simp at h
  |some b=>
   rw [X]at h
   cases hm:l.mapM f with
   |none=>rw [hm]at h;simp at h
   |some r' =>
    rw [hm]at h
    simp at h
    subst h
    obtain⟨Y,J⟩:=sL hm
    refine⟨by simp [Y],fun i x I=>?_⟩
    cases i with
    |zero=>simp at I;subst I;exact⟨b,rfl,X⟩
    |succ i=>exact J i x (by simpa using I)
def yi{a:Addr}(h:W.cell? a=some v):a.spot=none/\ ∃c E fr,W.heap[a.block]? =some (.cells c E fr)/\c[a.off]? =some v:=by
 unfold World.cell? at h
 cases ho:W.heap[a.block]? with
 |none=>rw [ho]at h;cases h
 |some o=>
  rw [ho]at h
  cases o with
  |cells c E fr=>
   simp only at h
   by_cases hs:a.spot.isSome=true
   ·rw [bE hs]at h;cases h
   ·rw [bn hs]at h
    exact⟨by cases hq:a.spot with
     |none=>rfl
     |some s=>rw [hq]at hs;simp at hs,c,E,fr,rfl,h⟩
  |_=>simp at h
def Co(a:Addr):a.add 0=a:=by unfold Addr.add;rfl
def GJ(h:W.cells? 0 ⟨b,off,none⟩ n=some cs)(hn:0<n): ∃c E fr,W.heap[b]? =some (.cells c E fr)/\cs=(c.toList.drop off).take n:=by
 unfold World.cells? at h
 rw [bE (mJ _)]at h
 obtain⟨Y,J⟩:=sL h
 obtain⟨v,_,hv⟩:=J 0 0 (by simp [hn])
 obtain⟨_,c,E,fr,Z,h4⟩:=yi hv
 refine⟨c,E,fr,by simpa [Addr.add] using Z,?_⟩
 apply BM
 intro i
 have hl:cs.length=n:=by simpa using Y
 by_cases hi:i<n
 ·obtain⟨v,h5,h6⟩:=J i i (by simp [hi])
  obtain⟨_,c',E',fr',h7,h8⟩:=yi h6
  rw [iI]at h7 h8
  have h7' :W.heap[b]? =some (.cells c' E' fr'):=h7
  have h3' :W.heap[b]? =some (.cells c E fr):=by simpa [Addr.add] using Z
  rw [h3']at h7'
  injection h7' with h7'
  injection h7' with e1
  subst e1
  rw [h5,wE hi,ue]
  simpa using h8.symm
 ·rw [zz (by omega),zz (by simp;omega)]
def H4{q:Rp α}{len:Nat}{a:Addr}{x:DataW tD×List MemPlace}(h0' :0<q.sz)(hq:xo enc P W e q)(I:(let elemAt (i:Nat):Option (DataW tD×List MemPlace):=(W.cells? 0 (a.add (i*P.cellsOf e)) (P.cellsOf e)).bind (DataW.trod enc P W 0 (fun _=>true) true n e)
   if 0<=a.block/\len<=cap/\cap<=maxLen then
    ((List.range len).mapM elemAt).bind fun elems=>
     (if(fun _=>true) a.block then(List.range (cap-len)).mapM fun j=>elemAt (len+j)else some []).map fun rest=>
      (DataW.slice (elems.map (·.1)) (rest.map (·.1)),MemPlace.row a ((elems.length+rest.length)*P.cellsOf e)++(elems++rest).flatMap (·.2))
   else none)=some x): ∃y,(gJ q).rc (Eu W) [.slice (some a) len cap] y:=by
 simp only at I
 split at I
 ·rename_i hcond
  obtain⟨_,hle,hmax⟩:=hcond
  cases hm:(List.range len).mapM (fun i=>(W.cells? 0 (a.add (i*P.cellsOf e)) (P.cellsOf e)).bind (DataW.trod enc P W 0 (fun _=>true) true n e))with
  |none=>rw [hm]at I;simp at I
  |some elems=>
   obtain⟨hm1,hm2⟩:=sL hm
   rw [hq.1]at hm2
   by_cases hl0:len=0
   ·subst hl0;exact⟨[],some a,cap,rfl,mJ _,hmax,.inl rfl⟩
   have hsp0:a.spot=none:=by
    obtain⟨z,_,hz⟩:=hm2 0 0 (by rw [List.getElem?_range (by omega)])
    rw [Nat.zero_mul,Co]at hz
    cases hcs:W.cells? 0 a q.sz with
    |none=>rw [hcs]at hz;simp at hz
    |some cs1=>
     unfold World.cells? at hcs
     rw [bE (mJ _)]at hcs
     obtain⟨_,g2⟩:=sL hcs
     obtain⟨v,_,hv⟩:=g2 0 0 (by simp [h0'])
     rw [Co]at hv
     exact(yi hv).1
   have hcell: ∀i,i<len-> ∃c E fr,a.spot=none/\W.heap[a.block]? =some (.cells c E fr)/\ ∃y,q.rc (Eu W) ((c.toList.drop (a.off+i*q.sz)).take q.sz) y:=by
    intro i hi
    obtain⟨z,_,hz⟩:=hm2 i i (by simp [hi])
    cases hcs:W.cells? 0 (a.add (i*q.sz)) q.sz with
    |none=>rw [hcs]at hz;simp at hz
    |some cs1=>
     rw [hcs]at hz
     have hsp:a.spot=none:=hsp0
     obtain⟨ab,ao,az⟩:=a
     simp only at hsp
     subst hsp
     rw [iI]at hcs
     obtain⟨c,E,fr,g1,g2⟩:=GJ hcs h0'
     obtain⟨y,hy⟩:=hq.2 n cs1 z hz
     exact⟨c,E,fr,rfl,g1,y,by rw [<-g2];exact hy⟩
   obtain⟨c,E,fr,hsp,V,_⟩:=hcell 0 (by omega)
   have key: ∀m,m<=len-> ∃ys:List α,ys.length=m/\qS q (Eu W) ((c.toList.drop a.off).take (m*q.sz)) ys:=by
    intro m
    induction m with
    |zero=>intro _;exact⟨[],rfl,by simp [qS]⟩
    |succ m ih=>
     intro hm'
     obtain⟨ys,hy1,hy2⟩:=ih (by omega)
     obtain⟨c',E',fr',_,hb',y,hy⟩:=hcell m (by omega)
     rw [V]at hb'
     injection hb' with hb'
     injection hb' with e1
     subst e1
     refine⟨ys++[y],by simp [hy1],?_⟩
     have hsplit:(c.toList.drop a.off).take ((m+1)*q.sz)=(c.toList.drop a.off).take (m*q.sz)++(c.toList.drop (a.off+m*q.sz)).take q.sz:=by
      rw [tY,Nat.one_mul,List.take_add,p8]
     rw [hsplit]
     exact ta hy2 (FX.2 hy)
   obtain⟨ys,hy1,hy2⟩:=key len (dr _)
   obtain⟨ab,ao,az⟩:=a
   simp only at hsp
   subst hsp
   exact⟨ys,some ⟨ab,ao,none⟩,cap,by rw [hy1],by omega,hmax,.inr ⟨ab,ao,c,E,fr,rfl,V,by rw [hy1];exact hy2⟩⟩
 ·cases I
def qu{q:Rp α}(h:P.underlying t=some (.slice e))(hc:P.cellsOf t=1)(h0:Nat.blt 0 q.sz=true)(hq:xo enc P W e q):xo enc P W t (gJ q):=⟨hc,fun fuel cs x I=>by
 have h0' :0<q.sz:=by simpa [tM] using h0
 cases fuel with
 |zero=>simp [DataW.trod]at I
 |succ n=>
  unfold DataW.trod at I
  rw [h]at I
  split at I
  all_goals try (injections;done)
  ·exact⟨[],none,0,rfl,dr _,mJ _,.inl rfl⟩
  ·rename_i e' a len cap heq
   injection heq with e1
   injection e1 with e1
   subst e1
   exact H4 h0' hq I⟩
def Np(enc:TypeId×Value->tD)(P:Program)(W:World){α:Type}(off:Nat)(l:List (TypeId×Nat))(r:Rp α):Prop:=
 ∀(fuel:Nat) (cs:List Value),cs.length=off+r.sz->(∀f∈l,∃x,DataW.trod enc P W 0 (fun _=>true) true fuel f.1 ((cs.drop f.2).take (P.cellsOf f.1))=some x)-> ∃y,r.rc (Eu W) (cs.drop off) y
def q6{t:Nat}(h:xo enc P W t r):Np enc P W off [(t,off)] r:=fun fuel cs hl I=>by
 obtain⟨x,I⟩:=I _ (List.mem_singleton_self _)
 simp only at I
 rw [h.1,nM (by simp;omega)]at I
 exact h.2 _ _ _ I
def fh{p:Rp α}{t off' :Nat}{l:List (TypeId×Nat)}(h:xo enc P W t p)(ho:off' =off+p.sz)(hr:Np enc P W off' l q):Np enc P W off ((t,off)::l) (cx p q):=fun fuel cs hl I=>by
 subst ho
 obtain⟨x,hx1⟩:=I _ (mp ..)
 simp only at hx1
 rw [h.1]at hx1
 obtain⟨y,hy⟩:=h.2 _ _ _ hx1
 obtain⟨z,hz⟩:=hr fuel cs (by rw [hl];show off+(p.sz+q.sz)=_;omega) fun f X=>I f (nu _ X)
 exact⟨(y,z),_,_,by rw [<-p8];exact(sn _ _).symm,hy,hz⟩
def nj{l:List (TypeId×Nat)}{p:Rp α}{f:β->α}(D:(P.underlying t).map (fun d=>match d with| .struct l=>(true,l.toList.map fun f=>(f.type,f.offset))|_=>(false,[]))=some (true,l))(hc:P.cellsOf t=p.sz)(X: ∀y,∃x,f x=y)(hl:Np enc P W 0 l p):xo enc P W t (nP p f):=⟨hc,fun fuel cs x I=>by
 obtain⟨fs,Y,J⟩: ∃fs,P.underlying t=some (.struct fs)/\fs.toList.map (fun f=>(f.type,f.offset))=l:=by
  cases hu:P.underlying t with
  |none=>rw [hu]at D;cases D
  |some d=>
   rw [hu]at D
   cases d<;>simp at D
   exact⟨_,rfl,D⟩
 cases fuel with
 |zero=>simp [DataW.trod]at I
 |succ n=>
  unfold DataW.trod at I
  rw [Y]at I
  change (if cs.length=P.cellsOf t then(fs.toList.mapM fun f=>DataW.trod enc P W 0 (fun _=>true) true n f.type ((cs.drop f.offset).take (P.cellsOf f.type))).map (fun xs=>(DataW.agg (xs.map (·.1)),xs.flatMap (·.2)))else none)=some x at I
  split at I
  ·rename_i hlen
   cases hm:fs.toList.mapM (fun f=>DataW.trod enc P W 0 (fun _=>true) true n f.type ((cs.drop f.offset).take (P.cellsOf f.type)))with
   |none=>rw [hm]at I;simp at I
   |some r=>
    obtain⟨_,hm2⟩:=sL hm
    obtain⟨y,hy⟩:=hl n cs (by rw [hlen,hc];omega) (fun g T=>by
     rw [<-J,rQ]at T
     obtain⟨f0,hf0,rfl⟩:=T
     obtain⟨i,hi⟩:=List.getElem?_of_mem hf0
     obtain⟨z,_,hz⟩:=hm2 i f0 hi
     exact⟨z,hz⟩)
    obtain⟨x',hx'⟩:=X y
    refine⟨x',?_⟩
    show p.rc _ cs (f x')
    rw [hx']
    simpa using hy
  ·cases I⟩
def Do{W' :World}(h:gU oW W S W' S'):Below W.heap.size W W' :=⟨h.os,h.tape,h.output,h.size,fun k hk=>h.heap k hk (fun h=>h)⟩
def vw(hl:laidOutB P=true){W W' :World}(V:Below W.heap.size W W'){sp:Nat->Bool}: ∀{ts:List TypeId} {vs:List Value} {ds:List (DataW tD)} {ps:List MemPlace},(∀t∈ts,P.readableRec t=true/\t<P.types.size)->
  DataW.TrodAll enc P W 0 (fun _=>true) true ts vs ds ps->(∀p∈ps,p.block<W.heap.size)->(∀p∈ps,sp p.block=true)->DataW.TrodAll enc P W' 0 sp true ts vs ds ps
 |[],[],[],_,_,h,_,_=>h
 |t::ts,v::vs,d::ds,_,hr,⟨p,q,Y,J,e⟩,hlt,hsp=>by
  subst e
  have D:=hr t (mp ..)
  exact⟨p,q,WideElems.Trod_stays hl D.1 D.2 Y (fun x I=>V.same (hlt x (BN _ I))) (fun x I=>hsp x (BN _ I)),
   vw hl V (fun t D=>hr t (nu _ D)) J (fun x I=>hlt x (List.mem_append_right _ I)) (fun x I=>hsp x (List.mem_append_right _ I)),rfl⟩
def JZ{f:Func}{s:ChangeSpec}{apart fresh handsOn again:Bool}{W' :World}{args:Array Value}{ds gs:List (DataW tD)}{before:List MemPlace}{tb:TypeId}(hl:laidOutB P=true)(hr: ∀t∈f.params.toList,P.readableRec t=true/\t<P.types.size)(hvs:s.vars=[])(hres:f.resultTypes= #[tb])(htb:P.underlying tb=some .bool)(hW:DataW.Whole enc P f.params.toList s.vars apart W args.toList ds gs before)(hs:s.fn tD (ds++gs)={results:=[.lit (.bool true)],args:=ds})(V:Below W.heap.size W W'):
  s.post enc P f apart fresh handsOn again W args (.bool true) W' :=by
 have hW0:=hW
 have hlt:=hW.lt
 obtain⟨pa,pv,hA,hV,rfl,hz,hn⟩:=hW
 rw [hvs]at hV
 have hpv:pv=[]:=by
  cases gs with
  |nil=>exact hV
  |cons g gs=>exact hV.elim
 subst hpv
 have hlt' : ∀p∈pa,p.block<W.heap.size:=fun p hp=>hlt p (by simpa using hp)
 have hargs: ∀sp:Nat->Bool,(∀p∈pa,sp p.block=true)->DataW.TrodAll enc P W' 0 sp true f.params.toList args.toList ds pa:=fun sp hsp=>vw hl V hr hA hlt' hsp
 have hresT: ∀(b:Nat) (sp:Nat->Bool) (hd:Bool),DataW.TrodAll enc P W' b sp hd f.resultTypes.toList ((Value.bool true).resultList f.resultTypes.size) [.lit (.bool true)] []:=fun b sp hd=>by
  rw [hres]
  exact⟨[],[],⟨1,by simp [DataW.trod,htb,Value.cells]⟩,rfl,rfl⟩
 have hvT: ∀sp:Nat->Bool,DataW.TrodVars enc P W' sp s.vars (s.fn tD (ds++gs)).vars []:=fun sp=>by
  rw [hvs,hs];rfl
 have hargs' : ∀sp:Nat->Bool,(∀p∈pa,sp p.block=true)->DataW.TrodAll enc P W' 0 sp true f.params.toList args.toList (s.fn tD (ds++gs)).args pa:=fun sp hsp=>by rw [hs];exact hargs sp hsp
 have hres' : ∀(b:Nat) (sp:Nat->Bool) (hd:Bool),DataW.TrodAll enc P W' b sp hd f.resultTypes.toList ((Value.bool true).resultList f.resultTypes.size) (s.fn tD (ds++gs)).results []:=fun b sp hd=>by rw [hs];exact hresT b sp hd
 have hold: ∀p∈pa,(fun b=>decide (b<W.heap.size)) p.block=true:=fun p hp=>by simpa using hlt' p hp
 refine⟨ds,gs,pa++[],[],pa,[],hW0,hres' _ _ _,hargs' _ hold,hvT _,World.keptBut_mono (fun p hp=>⟨hp,?_⟩) (V.frame _),fun _=>?_⟩
 ·right;simpa using hp
 ·refine⟨?_,_,_,([]++pa)++[],⟨[]++pa,[],trodAll_append (hargs' _ (fun _ _=>rfl)) (hres' _ _ _),hvT _,rfl,?_,?_⟩,?_⟩
  ·intro j t r Y J
   rw [hres]at Y J
   cases j with
   |zero=>
    simp [Value.resultList]at Y J
    subst Y J
    simp [Value.okWide,htb,Cell.okWide,Cell.ok]
   |succ j=>simp at Y
  ·intro b off hp
   have hp' :MemPlace.cell b off∈pa:=by simpa using hp
   have:=hlt' _ hp'
   rw [V.frozen (p:=⟨b,off,none⟩) this]
   exact hz b off (by simpa using hp')
  ·intro ha
   have:=hn ha
   simpa using this
  ·intro p hp _
   simpa using hp
end

section
def wQ{α:Type}(r:Rp α)(ok:α->Prop):Rp α where
 sz:=r.sz
 agg:=r.agg
 rc:=fun S cs x=>r.rc S cs x/\ok x
 mono:=fun h k=>⟨r.mono h k.1,k.2⟩
 len:=fun k=>r.len k.1
 one:=fun k=>r.one k.1
 sc:=r.sc
def tR(k:IntKind)(n:Int):Prop:=k.min<=n/\n<=k.max
def RK(s:Jc):Prop:=s.length<=maxLen
def Nz{α:Type}(ok:α->Prop)(xs:List α):Prop:=xs.length<=maxLen/\ ∀x∈xs,ok x
def PJ{α:Type}(_:α):Prop:=True
def zP(h:P.underlying t=some (.int k))(hc:P.cellsOf t=1):xo enc P W t (wQ (rI k) (tR k)):=⟨hc,fun fuel cs x I=>by
 cases fuel with
 |zero=>simp [DataW.trod]at I
 |succ n=>
  unfold DataW.trod at I
  rw [h]at I
  split at I
  all_goals try (injections;done)
  ·rename_i k1 k2 m heq
   injection heq with e
   injection e with e
   subst e
   split at I
   ·rename_i J
    obtain⟨rfl,Z⟩:=J
    simp only [Lit.wf,jX,zy]at Z
    exact⟨m,rfl,Z⟩
   ·cases I⟩
def Jq(h:P.underlying t=some .string)(hc:P.cellsOf t=1):xo enc P W t (wQ rS RK):=⟨hc,fun fuel cs x I=>by
 cases fuel with
 |zero=>simp [DataW.trod]at I
 |succ n=>
  unfold DataW.trod at I
  rw [h]at I
  split at I
  all_goals try (injections;done)
  ·rename_i s heq
   split at I
   ·rename_i J;exact⟨s.data.toList,rfl,(show s.data.toList.length<=maxLen from(show s.size=s.data.toList.length from rfl)▸J)⟩
   ·cases I⟩
def H5(h:P.underlying t=some .bool)(hc:P.cellsOf t=1):xo enc P W t (wQ rB PJ):=
 ⟨hc,fun fuel cs x I=>by obtain⟨y,hy⟩:=(Jr (enc:=enc) (W:=W) h hc).2 fuel cs x I;exact⟨y,hy,trivial⟩⟩
def Fi{α:Type}(r' r:Rp α)(ok:α->Prop):Prop:=r'.sz=r.sz/\r'.agg=r.agg/\ ∀S cs x,r'.rc S cs x->r.rc S cs x/\ok x
def kO:Fi (wQ r ok) r ok:=⟨rfl,rfl,fun _ _ _ h=>h⟩
def He{α:Type}{r' r:Rp α}{ok:α->Prop}(h:Fi r' r ok){S:SH}: ∀{xs:List α} {cs:List Value},qS r' S cs xs->qS r S cs xs/\ ∀x∈xs,ok x
 |[],_,k=>⟨k,fun x I=>by cases I⟩
 |x::xs,_,⟨a,b,e,Y,J⟩=>by
  obtain⟨g1,g2⟩:=h.2.2 _ _ _ Y
  obtain⟨g3,g4⟩:=He h J
  exact⟨⟨a,b,e,g1,g3⟩,fun y hy=>by
   rcases gB.1 hy with rfl|hy
   ·exact g2
   ·exact g4 y hy⟩
def wc{r' :Rp α}(h:Fi r' r ok):Fi (gJ r') (gJ r) (Nz ok):=⟨rfl,rfl,fun S cs xs ⟨a,cap,e,Y,J,Z⟩=>by
 rcases Z with Z|⟨b,off,c,E,fr,e1,e2,e3⟩
 ·exact⟨⟨a,cap,e,Y,J,.inl Z⟩,by omega,fun x I=>by rw [Z]at I;cases I⟩
 ·rw [h.1]at e3
  obtain⟨g1,g2⟩:=He h e3
  exact⟨⟨a,cap,e,Y,J,.inr ⟨b,off,c,E,fr,e1,e2,g1⟩⟩,by omega,g2⟩⟩
def gx{p' p:Rp α}{q' :Rp β}{f:α->Prop}{g:β->Prop}(h:Fi p' p f)(k:Fi q' q g):Fi (cx p' q') (cx p q) (fun x=>f x.1/\g x.2):=
 ⟨by show p'.sz+q'.sz=p.sz+q.sz;rw [h.1,k.1],rfl,fun S cs x ⟨a,b,e,Y,J⟩=>⟨⟨a,b,e,(h.2.2 _ _ _ Y).1,(k.2.2 _ _ _ J).1⟩,(h.2.2 _ _ _ Y).2,(k.2.2 _ _ _ J).2⟩⟩
def s8{p' p:Rp α}{f:β->α}(h:Fi p' p ok):Fi (nP p' f) (nP p f) (fun x=>ok (f x)):=
 ⟨h.1,rfl,fun S cs x k=>h.2.2 _ _ _ k⟩
def Nh{r' :Rp α}(h:xo enc P W t r')(hr:Fi r' r ok)(hag:r.agg=true){d:DataW tD}{ps:List MemPlace}(hv:DataW.Trod enc P W 0 (fun _=>true) true t v d ps)(hc:v= .agg v.cells): ∃y,(H r y).p (Eu W) v/\ok y:=by
 obtain⟨fuel,I⟩:=hv
 obtain⟨y,hy⟩:=h.2 _ _ _ I
 obtain⟨g1,g2⟩:=hr.2.2 _ _ _ hy
 exact⟨y,⟨_,by unfold Rp.val;rw [hag,bE rfl];exact hc,g1⟩,g2⟩
def Dn{l:Array Field}(D:P.underlying t=some (.struct l))(hv:Value.okWide P W .any base t v):v= .agg v.cells:=by
 unfold Value.okWide at hv
 rw [D]at hv
 obtain⟨cs,e,_⟩:=hv
 rw [e]
 rfl
end

section
variable{held:Bool}
end

section
variable{ty:TypeId}
end

section
variable{ty:TypeId}
def hH{N:Fr}(hag:r.agg=true)(hr: ∀S,r.rc S [v] y)(h:aF N G x (tV (.agg #[v]))):aF N G x (H r y):=fun S a X=>⟨[v],by rw [Rp.val,bE hag];exact h S a X,hr S⟩
end

section
variable{t:ι->Ty}{O2:ι->List OE}
end

section
variable{ty:TypeId}
end
section
variable{ty:TypeId}
end

def M{α:Sort _}{a:α}:a=a:=rfl
def aR:True:=trivial
abbrev cE(x:Int):Ty:=H (rI .i64) x
abbrev gC(x:Bool):Ty:=H rB x
abbrev jw{α:Type}(l:List α):Ty:=H (rI .i64) (l.length:Int)
abbrev px:Rp (List Int):=gJ (rI .i64)
abbrev lO(l:List Int):Ty:=H (gJ (rI .i64)) l
abbrev gk{α:Type}(r:Rp α)(l:List α):Ty:=H (gJ r) l
abbrev tB{α:Type}(l:Option Nat)(c:Nat)(xs:List α):Ty:=tV (aL l c xs.length)
def bv: ∀{G' G:jZ},G'.map (fun p=>bM G p.1)=G'.map (fun p=>some p.2)->FL G' G
 |[],_,_=>trivial
 |(_,_)::_,_,h=>⟨(List.cons.inj h).1,bv (List.cons.inj h).2⟩

section
variable{ty:TypeId}
def nb{x:Nat}{t:Ty}(h:bM G x=some t):bT E O G ⟨dst,.move (.tmp x),ty,pos,after,g⟩ t:=ci (D h)
def Bi{x:Nat}{t:Ty}(h:bM G x=some t):bT E O G ⟨dst,.assign (.tmp x),ty,pos,after,g⟩ t:=bF (D h)
def RS{n:Int}:bT E O G ⟨dst,.assign (.const (.int k n)),ty,pos,after,g⟩ (H (rI k) n):=bF hI
def RE{b:Bool}:bT E O G ⟨dst,.assign (.const (.bool b)),ty,pos,after,g⟩ (H rB b):=bF hB
def pe{x:α}{p:Nat}(ti:TI E.P U sz bytes agg z)(hp:bM G p=some (bC r x))(hs:(r.sz,r.agg)=(sz,agg)):
  bT E O G ⟨dst,.load U (.tmp p),ty,pos,after,g⟩ (H r x):=ir ti (uf hs).1 (uf hs).2 (D hp)
def nN{get:α->β}{x:α}{i:Nat}{p:Nat}(X:cP E.P hg i=some (off,sz))(hq:mj r off q get)(hp:bM G p=some (bC r x))(h0:(!(Nat.beq sz 0)&&Nat.ble (off+q.sz) r.sz)=true):bT E O G ⟨dst,.fieldAddr hg (.tmp p) i,ty,pos,after,g⟩ (bC q (get x)):=
 iZ X (by cases h:Nat.beq sz 0<;>simp [h]at h0 ⊢) hq (by revert h0;cases Nat.ble (off+q.sz) r.sz<;>simp) (D hp)
def PM{x:Nat}(hu:E.P.underlying t=some (.slice e))(I:bM G x=some (H (gJ r) xs)):
  bT E O G ⟨dst,.call ⟨.builtin .len,#[.tmp x],#[t]⟩,ty,pos,after,g⟩ (H (rI .i64) (xs.length:Int)):=ke hu (D I)
def Bh{x:Nat}{i:Nat}{t:Ty}(hi:ts[i]? =some t)(I:bM G x=some (tT ts)):bT E O G ⟨dst,.extract (.tmp x) i,ty,pos,after,g⟩ t:=Gd hi (D I)
def zbx{v:α}{x:Nat}(I:bM G x=some (H r v)):bT E O G ⟨dst,.box hg (.tmp x),ty,pos,after,g⟩ (bC r v):=JP (D I)
def PA{c x:Nat}{b q:Bool}(hc:bM G c=some (H rB b))(I:bM G x=some (lC b (H rB q))):bT E O G ⟨dst,.pick (.tmp c) (.tmp x) (.const (.bool false)),ty,pos,after,g⟩ (H rB (b&&q)):=qW (D hc) (fun V=>df I V)
def RR{c x:Nat}{b q:Bool}(hc:bM G c=some (H rB b))(I:bM G x=some (lC (!b) (H rB q))):bT E O G ⟨dst,.pick (.tmp c) (.const (.bool true)) (.tmp x),ty,pos,after,g⟩ (H rB (b||q)):=uZ (D hc) (fun V=>df I (CY V))
variable{xt yt:TypeId}{x y:Nat}{m n:Int}
def zlt(I:bM G x=some (H (rI k) m))(hy:bM G y=some (H (rI k) n)):bT E O G ⟨dst,.binOp .lss xt (.tmp x) (.tmp y) yt,ty,pos,after,g⟩ (H rB (decide (m<n))):=mL (D I) (D hy)
def PD{j:IntKind}(I:bM G x=some (H (rI j) m)):bT E O G ⟨dst,.binOp .eql xt (.tmp x) (.const (.int j n)) yt,ty,pos,after,g⟩ (H rB (m==n)):=gZ (D I) hI
def zni{j:IntKind}(I:bM G x=some (H (rI j) m)):bT E O G ⟨dst,.binOp .neq xt (.tmp x) (.const (.int j n)) yt,ty,pos,after,g⟩ (H rB (m !=n)):=jt (D I) hI
def H1{y:α}{x ix:Nat}{k:IntKind}{i:Int}(hu:E.P.underlying t=some (.slice e))(ti:TI E.P e sz bytes agg z)(hsz:r.sz=sz)(I:bM G x=some (H (gJ r) xs))(hi:bM G ix=some (H (rI k) i))(hy:cU xs i=some y):
  bT E O G ⟨dst,.indexAddr t (.tmp x) (.tmp ix),ty,pos,after,g⟩ (bC r y):=bp hu ti hsz (D I) (D hi) hy
def RD{i:Nat}{x:Nat}{xt yt:TypeId}(hi:i<9223372036854775807)(I:bM G x=some (H (rI .i64) (i:Int))):
  bT E O G ⟨dst,.binOp .add xt (.tmp x) (.const (.int .i64 1)) yt,ty,pos,after,g⟩ (H (rI .i64) ((i+1:Nat):Int)):=wX hi (D I) hI
def rW{i o:Nat}{p:Nat}(n:Nat)(X:cP E.P hg i=some (off,sz))(h0:Nat.beq sz 0=false)(hp:bM G p=some (tV (ax b o)))(he:o+off=n):bT E O G ⟨dst,.fieldAddr hg (.tmp p) i,ty,pos,after,g⟩ (tV (ax b n)):=mY (n:=n) X h0 (D hp) he
end
section
variable{l:List Oper}
def zo{ty:TypeId}{t:Ty}(hd:Nat.blt d E.N.n=true)(h:bT E O G ⟨some d,op,ty,pos,after,none⟩ t)(k:RG E ops Q l O ((d,t)::G)):
  RG E ops Q (⟨some d,op,ty,pos,after,none⟩::l) O G:=sQ h hd k
def te(n d:Nat)(r:Option Ty):Option Ty:=if Nat.blt d n then r else none
def cT{r:Option Ty}{t:Ty}(h:te n d r=some t):Nat.blt d n=true/\r=some t:=by
 unfold te at h;split at h
 case isTrue Y=>exact⟨Y,h⟩
 case isFalse=>cases h
def bu{x:Nat}{ty:TypeId}{t:Ty}(h:te E.N.n d (bM G x)=some t)(k:RG E ops Q l O ((d,t)::G)):
  RG E ops Q (⟨some d,.move (.tmp x),ty,pos,after,none⟩::l) O G:=sQ (ci (D (cT h).2)) (cT h).1 k
def jy{x:Nat}{ty:TypeId}{t:Ty}(h:te E.N.n d (bM G x)=some t)(k:RG E ops Q l O ((d,t)::G)):
  RG E ops Q (⟨some d,.assign (.tmp x),ty,pos,after,none⟩::l) O G:=sQ (bF (D (cT h).2)) (cT h).1 k
def cb{y:Code}(h:CG E Q y O G):RG E ops (Exit.then (y.wpIn (fw E.r) 0 E.P Q) Q) [] O G:=bt (aB h)
def aV{id:Nat}{l:List Oper}{y:Code}(h:RG E l.toArray (Exit.then (y.wpIn (fw E.r) 0 E.P Q) Q) l O G):CG E Q (.seq (.region id l.toArray false) y) O G:=aI (aG h)
def oH{β:Type _}{hf h1:Option β}{r:β}{c:Nat}{x y:Code}{b:Bool}(h:(if b=true then hf else h1)=some r)(V:bM G c=some (H rB b))(I:hf=some r->CG E Q x O G)(hy:h1=some r->CG E Q y O G):CG E Q (.cond (.tmp c) x y) O G:=
 pw (D V) (fun hc=>I (ct h hc)) (fun hc=>hy (cf h hc))
def kF{y:Code}(h:CG E Q y O G):CG E (Exit.then (y.wpIn (fw E.r) 0 E.P Q) Q) .skip O G:=cc (aB h)
def zgt{gs:Nat}{b:Bool}{ty:TypeId}{t:Ty}(hj:(ops[j]?).bind (·.dst)=some gs)(T:te E.N.n gs (te E.N.n d (bM G gs))=some (H rB b))(h:b=true->bT E O G ⟨some d,op,ty,pos,after,some (j,true)⟩ t)(k:RG E ops Q l O ((d,lC b t)::G)):RG E ops Q (⟨some d,op,ty,pos,after,some (j,true)⟩::l) O G:=Nl hj (cT T).1 (cT (cT T).2).2 (cT (cT T).2).1 h k
def zgf{gs:Nat}{b:Bool}{ty:TypeId}{t:Ty}(hj:(ops[j]?).bind (·.dst)=some gs)(T:te E.N.n gs (te E.N.n d (bM G gs))=some (H rB b))(h:(!b)=true->bT E O G ⟨some d,op,ty,pos,after,some (j,false)⟩ t)(k:RG E ops Q l O ((d,lC (!b) t)::G)):RG E ops Q (⟨some d,op,ty,pos,after,some (j,false)⟩::l) O G:=Nm hj (cT T).1 (cT (cT T).2).2 (cT (cT T).2).1 h k
end
def cC{α:Type _}{β:Type _}{x:Option α}{k:α->Option β}{r:β}{P:Prop}(h:x.bind k=some r)(f: ∀y,x=some y->k y=some r->P):P:=by
 obtain⟨y,Y,J⟩:=bs h;exact f y Y J
variable{u1:Ty}
section
variable{l:List Oper}{i:Nat}{t:Ty}
def ze{a b c:Bool}(h:(a&&b&&c)=true):a=true/\b=true/\c=true:=by revert h;cases a<;>cases b<;>cases c<;>simp
def Qs{x:Option α}(h:x.isNone=true):x=none:=by cases x;rfl;cases h
def Lg(h:ts[i]? =some t)(k:bT E O [] o t)(V:(dF i o&&o.guard.isNone)=true:=by exact rfl): ∃(needs:List Nd) (t:Ty),ts[i]? =some t/\oK G ts needs/\(needs.all (lQ l o i))=true/\dF i o=true/\bQ E O l.toArray (g9 needs) o t:=
 ⟨[],t,h,trivial,rfl,(Bo.1 V).1,ae (Qs (Bo.1 V).2) k⟩
def qd(a:Nat)(h:ts[i]? =some t)(hu:tW G ts ⟨a,u,none⟩)(k:bT E O [(a,u)] o t)(V:([(⟨a,u,none⟩:Nd)].all (lQ l o i)&&dF i o&&o.guard.isNone)=true:=by exact rfl): ∃(needs:List Nd) (t:Ty),ts[i]? =some t/\oK G ts needs/\(needs.all (lQ l o i))=true/\dF i o=true/\bQ E O l.toArray (g9 needs) o t:=
 ⟨[(⟨a,u,none⟩:Nd)],t,h,⟨hu,trivial⟩,(ze V).1,(ze V).2.1,ae (Qs (ze V).2.2) k⟩
def fb(a:Nat)(j:Nat)(h:ts[i]? =some t)(hu:tW G ts ⟨a,u,(some j)⟩)(k:bT E O [(a,u)] o t)(V:([(⟨a,u,(some j)⟩:Nd)].all (lQ l o i)&&dF i o&&o.guard.isNone)=true:=by exact rfl): ∃(needs:List Nd) (t:Ty),ts[i]? =some t/\oK G ts needs/\(needs.all (lQ l o i))=true/\dF i o=true/\bQ E O l.toArray (g9 needs) o t:=
 ⟨[(⟨a,u,(some j)⟩:Nd)],t,h,⟨hu,trivial⟩,(ze V).1,(ze V).2.1,ae (Qs (ze V).2.2) k⟩
def zes(a:Nat)(j:Nat)(h:ts[i]? =some t)(hu:tW G ts ⟨a,u,(some j)⟩)(k:bQ E O l.toArray [(a,u)] o t)(V:([(⟨a,u,(some j)⟩:Nd)].all (lQ l o i)&&dF i o)=true:=by exact rfl): ∃(needs:List Nd) (t:Ty),ts[i]? =some t/\oK G ts needs/\(needs.all (lQ l o i))=true/\dF i o=true/\bQ E O l.toArray (g9 needs) o t:=
 ⟨[(⟨a,u,(some j)⟩:Nd)],t,h,⟨hu,trivial⟩,(Bo.1 V).1,(Bo.1 V).2,k⟩
def tN(a:Nat)(a1:Nat)(j1:Nat)(h:ts[i]? =some t)(hu:tW G ts ⟨a,u,none⟩)(hu1:tW G ts ⟨a1,u1,(some j1)⟩)(k:bQ E O l.toArray [(a,u),(a1,u1)] o t)(V:([(⟨a,u,none⟩:Nd),⟨a1,u1,(some j1)⟩].all (lQ l o i)&&dF i o)=true:=by exact rfl): ∃(needs:List Nd) (t:Ty),ts[i]? =some t/\oK G ts needs/\(needs.all (lQ l o i))=true/\dF i o=true/\bQ E O l.toArray (g9 needs) o t:=
 ⟨[(⟨a,u,none⟩:Nd),⟨a1,u1,(some j1)⟩],t,h,⟨hu,hu1,trivial⟩,(Bo.1 V).1,(Bo.1 V).2,k⟩
def gg(a:Nat)(j:Nat)(a1:Nat)(j1:Nat)(h:ts[i]? =some t)(hu:tW G ts ⟨a,u,(some j)⟩)(hu1:tW G ts ⟨a1,u1,(some j1)⟩)(k:bT E O [(a,u),(a1,u1)] o t)(V:([(⟨a,u,(some j)⟩:Nd),⟨a1,u1,(some j1)⟩].all (lQ l o i)&&dF i o&&o.guard.isNone)=true:=by exact rfl): ∃(needs:List Nd) (t:Ty),ts[i]? =some t/\oK G ts needs/\(needs.all (lQ l o i))=true/\dF i o=true/\bQ E O l.toArray (g9 needs) o t:=
 ⟨[(⟨a,u,(some j)⟩:Nd),⟨a1,u1,(some j1)⟩],t,h,⟨hu,hu1,trivial⟩,(ze V).1,(ze V).2.1,ae (Qs (ze V).2.2) k⟩
def iM(a:Nat)(j:Nat)(a1:Nat)(j1:Nat)(h:ts[i]? =some t)(hu:tW G ts ⟨a,u,(some j)⟩)(hu1:tW G ts ⟨a1,u1,(some j1)⟩)(k:bQ E O l.toArray [(a,u),(a1,u1)] o t)(V:([(⟨a,u,(some j)⟩:Nd),⟨a1,u1,(some j1)⟩].all (lQ l o i)&&dF i o)=true:=by exact rfl): ∃(needs:List Nd) (t:Ty),ts[i]? =some t/\oK G ts needs/\(needs.all (lQ l o i))=true/\dF i o=true/\bQ E O l.toArray (g9 needs) o t:=
 ⟨[(⟨a,u,(some j)⟩:Nd),⟨a1,u1,(some j1)⟩],t,h,⟨hu,hu1,trivial⟩,(Bo.1 V).1,(Bo.1 V).2,k⟩
def PN(a:Nat)(j:Nat)(a1:Nat)(j1:Nat)(a2:Nat)(j2:Nat){u2:Ty}(h:ts[i]? =some t)(hu:tW G ts ⟨a,u,(some j)⟩)(hu1:tW G ts ⟨a1,u1,(some j1)⟩)(hu2:tW G ts ⟨a2,u2,(some j2)⟩)(k:bT E O [(a,u),(a1,u1),(a2,u2)] o t)(V:([(⟨a,u,(some j)⟩:Nd),⟨a1,u1,(some j1)⟩,⟨a2,u2,(some j2)⟩].all (lQ l o i)&&dF i o&&o.guard.isNone)=true:=by exact rfl): ∃(needs:List Nd) (t:Ty),ts[i]? =some t/\oK G ts needs/\(needs.all (lQ l o i))=true/\dF i o=true/\bQ E O l.toArray (g9 needs) o t:=
 ⟨[(⟨a,u,(some j)⟩:Nd),⟨a1,u1,(some j1)⟩,⟨a2,u2,(some j2)⟩],t,h,⟨hu,hu1,hu2,trivial⟩,(ze V).1,(ze V).2.1,ae (Qs (ze V).2.2) k⟩
def BQ(a:Nat)(j:Nat)(a1:Nat)(j1:Nat)(a2:Nat)(j2:Nat){u2:Ty}(h:ts[i]? =some t)(hu:tW G ts ⟨a,u,(some j)⟩)(hu1:tW G ts ⟨a1,u1,(some j1)⟩)(hu2:tW G ts ⟨a2,u2,(some j2)⟩)(k:bQ E O l.toArray [(a,u),(a1,u1),(a2,u2)] o t)(V:([(⟨a,u,(some j)⟩:Nd),⟨a1,u1,(some j1)⟩,⟨a2,u2,(some j2)⟩].all (lQ l o i)&&dF i o)=true:=by exact rfl): ∃(needs:List Nd) (t:Ty),ts[i]? =some t/\oK G ts needs/\(needs.all (lQ l o i))=true/\dF i o=true/\bQ E O l.toArray (g9 needs) o t:=
 ⟨[(⟨a,u,(some j)⟩:Nd),⟨a1,u1,(some j1)⟩,⟨a2,u2,(some j2)⟩],t,h,⟨hu,hu1,hu2,trivial⟩,(Bo.1 V).1,(Bo.1 V).2,k⟩
end
end Go.Proofs.YtbmmihfagmchaaaGreat

