/- cE of this claim: W33, W34, W35, W36, W37, W38, W39, W40, W48, W50, W51, W41, W42, W43, W21, W27, W45, W46, W47, W52, W53, W56, W57, W64. -/
import Derived.Test.YtdohlidddcgfjaaGreatFcV2
import Derived.Lib.Bytealg
import Derived.Maps.Range
import Derived.Laws.IdiomRangeMap
import Derived.Test.YtdohlidddcgfjaaGreatFcV1
import Derived.Laws.BytesString
import Derived.Below
import Derived.ProofKit
import Derived.OpenShut
import Derived.LaidMore
import Derived.Laws.Externs
set_option linter.all false
namespace Go.Proofs.YtdohlidddcgfjaaGreat
open Go

def xY(N:Nat):List Nat->List Oper->Bool
 |_,[]=>true
 |seen,o::rest=>match o.dst with
  |some aR=>Nat.blt aR N&& !(seen.any (Nat.beq aR))&&xY N (aR::seen) rest
  |none=>xY N seen rest
variable{N:Fr}{β:Type}{aR:Nat}{j:IntKind}{o:Oper}{p:Operand}{q:Rp β}
def CV{N:Nat}(l:List Oper): ∀(seen:List Nat),xY N seen l=true->
  (∀o:Oper,o∈l-> ∀aR,o.dst=some aR->aR<N/\aR∉seen)/\ ∀(i j:Nat) (o p:Oper) (aR:Nat),l[i]? =some o->l[j]? =some p->o.dst=some aR->p.dst=some aR->i=j:=by
 induction l with
 |nil=>exact fun _ _=>⟨fun _ h=>(by cases h),fun _ _ _ _ _ h=>(by simp at h)⟩
 |cons o l ih=>
  intro seen h
  unfold xY at h
  cases hd:o.dst with
  |none=>
   rw [hd]at h
   obtain⟨X,K⟩:=ih seen h
   refine⟨fun q hq aR hqd=>?_,fun i j p q aR hi hj hp hq=>?_⟩
   ·rcases kj.1 hq with rfl|hq
    ·rw [hd]at hqd;cases hqd
    ·exact X q hq aR hqd
   ·cases i with
    |zero=>simp at hi;subst hi;rw [hd]at hp;cases hp
    |succ i=>
     cases j with
     |zero=>simp at hj;subst hj;rw [hd]at hq;cases hq
     |succ j=>rw [K i j p q aR (by simpa using hi) (by simpa using hj) hp hq]
  |some d0=>
   rw [hd]at h
   simp only [pt,vD,DI]at h
   obtain⟨⟨g1,g2⟩,g3⟩:=h
   obtain⟨X,K⟩:=ih (d0::seen) g3
   have hns:d0∉seen:=fun hm=>by
    have:seen.any (Nat.beq d0)=true:=DG.2 ⟨d0,hm,Nat.beq_refl d0⟩
    rw [this]at g2;cases g2
   refine⟨fun q hq aR hqd=>?_,fun i j p q aR hi hj hp hq=>?_⟩
   ·rcases kj.1 hq with rfl|hq
    ·rw [hd]at hqd;cases hqd;exact⟨g1,hns⟩
    ·obtain⟨k1,k2⟩:=X q hq aR hqd
     exact⟨k1,fun hm=>k2 (ry _ hm)⟩
   ·cases i with
    |zero=>
     cases j with
     |zero=>rfl
     |succ j=>
      simp at hi;subst hi
      rw [hd]at hp;cases hp
      exact absurd (qa ..) (X q (rC (by simpa using hj)) d0 hq).2
    |succ i=>
     cases j with
     |zero=>
      simp at hj;subst hj
      rw [hd]at hq;cases hq
      exact absurd (qa ..) (X p (rC (by simpa using hi)) d0 hp).2
     |succ j=>rw [K i j p q aR (by simpa using hi) (by simpa using hj) hp hq]
def JX:List Oper->List Ty->mV->mV
 |o::l,t::ts,G=>match o.dst with
  |some aR=>(aR,t)::JX l ts G
  |none=>JX l ts G
 |_,_,G=>G
variable{G:mV}{e:TypeId}{k:IntKind}{t:TypeId}{ts:List Ty}{u:Ty}
def GZ(l:List Oper): ∀(ts:List Ty) (k:Nat) (t:Ty),ts.length=l.length->cC (JX l ts G) k=some t->
  (∃(j:Nat) (o:Oper),l[j]? =some o/\o.dst=some k/\ts[j]? =some t)\/(cC G k=some t/\ ∀o:Oper,o∈l->o.dst≠some k):=by
 induction l with
 |nil=>
  intro ts k t hl h
  have:ts=[]:=tH (by simpa using hl)
  subst this
  exact .inr ⟨h,fun _ h=>(by cases h)⟩
 |cons o l ih=>
  intro ts k t hl h
  cases ts with
  |nil=>simp at hl
  |cons u ts=>
   unfold JX at h
   have hl' :ts.length=l.length:=by simpa using hl
   have lift:((∃(j:Nat) (p:Oper),l[j]? =some p/\p.dst=some k/\ts[j]? =some t)\/(cC G k=some t/\ ∀p:Oper,p∈l->p.dst≠some k))->o.dst≠some k->
     (∃(j:Nat) (p:Oper),(o::l)[j]? =some p/\p.dst=some k/\(u::ts)[j]? =some t)\/(cC G k=some t/\ ∀p:Oper,p∈o::l->p.dst≠some k):=by
    rintro(⟨j,p,X,K,h3⟩|⟨X,K⟩) hne
    ·exact .inl ⟨j+1,p,by simpa using X,K,by simpa using h3⟩
    ·exact .inr ⟨X,fun p hp=>(kj.1 hp).elim (fun e=>by subst e;exact hne) (K p)⟩
   cases hd:o.dst with
   |none=>
    rw [hd]at h
    exact lift (ih ts k t hl' h) (by rw [hd];exact fun e=>by cases e)
   |some aR=>
    rw [hd]at h
    simp only at h
    unfold cC at h
    by_cases H:Nat.beq aR k=true
    ·rw [H]at h
     have:=qy H
     subst this
     have e:u=t:=by simpa using h
     subst e
     exact .inl ⟨0,o,rfl,hd,rfl⟩
    ·rw [AL]at H
     rw [H]at h
     refine lift (ih ts k t hl' h) ?_
     rw [hd]
     intro e
     have:aR=k:=rE e
     subst this
     simp at H
abbrev TS:=List Nat×(List OI->Ty)
def TS.at(p:TS)(σ:Nat->OI):Ty:=p.2 (p.1.map σ)
def tc(t:Ty):TS:=([],fun _=>t)
def PX(Ss:List ((Nat->OI)->List OE))(c:Nat)(σ:Nat->OI):List OE:=match Ss[c]? with|some f=>f σ|none=>[]
structure NS where
 slot:Nat
 ty:(Nat->OI)->Ty
 src:Option Nat
def NS.at(n:NS)(σ:Nat->OI):Nd:=⟨n.slot,n.ty σ,n.src⟩
def Vo(G:mV)(ts:List TS)(n:NS):Prop:=
 match n.src with
 |some j=> ∀σ,(ts[j]?).map (fun p=>p.at σ)=some (n.ty σ)
 |none=> ∀σ,cC G n.slot=some (n.ty σ)
def xz(G:mV)(ts:List TS):List NS->Prop
 |[]=>True
 |n::l=>Vo G ts n/\xz G ts l
variable{n:Nat}
def xz.mem{ts:List TS}: ∀{l:List NS},xz G ts l-> ∀n∈l,Vo G ts n
 |_::_,⟨h,_⟩,_,.head _=>h
 |_::_,⟨_,h⟩,_,.tail _ hm=>xz.mem h _ hm
def xw(l:List NS)(σ:Nat->OI):mV:=kf (l.map (·.at σ))
def SM(ts:List TS)(σ:Nat->OI):List Ty:=ts.map fun p=>p.at σ
def Px(L:List Oper)(es:List Bool)(i:Nat)(p:TS):Bool:=p.1.all fun k=>(es[k]?).getD false&&(Nat.beq k i||pg L L.length i k)
def Wm(L:List Oper)(es:List Bool)(i lo hi:Nat):Bool:=
 Nat.ble lo (iE es es.length)&&(List.range es.length).all fun k=> !((es[k]?).getD false)||((Nat.ble lo (iE es k)||pg L L.length i k)&&(Nat.blt (iE es k) hi||pg L L.length k i))
def DS(E:En)(G:mV)(L:List Oper)(ts:List TS)(Ss:List ((Nat->OI)->List OE))(es0:List Bool):Nat->Nat->List Oper->List Bool->Prop
 |_,_,[],_=>True
 |i,c,o::rest,false::es=>(∃(needs:List NS) (t:TS) (lo hi:Nat),ts[i]? =some t/\xz G ts needs/\(needs.all fun n=>qA L o i (n.at fun _=>ml))=true/\fv i o=true/\Px L es0 i t=true/\Wm L es0 i lo hi=true/\o.dst.isSome=true/\
   ∀c σ,lo<=c->c<=hi->cw E (PX Ss c σ) L.toArray (xw needs σ) o (t.at σ))/\DS E G L ts Ss es0 (i+1) c rest es
 |i,c,o::rest,true::es=>(∃(needs:List NS) (t:TS),ts[i]? =some t/\xz G ts needs/\(needs.all fun n=>qA L o i (n.at fun _=>ml))=true/\fv i o=true/\Px L es0 i t=true/\
   ∀σ,ne E L.toArray (PX Ss c σ) (xw needs σ) o (fun x=>PX Ss (c+1) (Ot σ i x)) (fun x=>t.at (Ot σ i x)))/\DS E G L ts Ss es0 (i+1) (c+1) rest es
 |_,_,_::_,[]=>False
variable{E:En}{L:List Oper}{Ss:List ((Nat->OI)->List OE)}{c:Nat}{es:List Bool}{lo:Int}{α:Type}{r:Rp α}{x:Nat}{σ:Nat->OI}
def DS.get{ts:List TS}{es0:List Bool}: ∀(r:List Oper) (es:List Bool) (k c:Nat),DS E G L ts Ss es0 k c r es-> ∀(j:Nat) (o:Oper),r[j]? =some o->
    ∃e,es[j]? =some e/\ ∃(needs:List NS) (t:TS),ts[k+j]? =some t/\xz G ts needs/\(needs.all fun n=>qA L o (k+j) (n.at fun _=>ml))=true/\fv (k+j) o=true/\Px L es0 (k+j) t=true/\
      (match e with
       |false=>o.dst.isSome=true/\ ∃lo hi,Wm L es0 (k+j) lo hi=true/\ ∀c σ,lo<=c->c<=hi->cw E (PX Ss c σ) L.toArray (xw needs σ) o (t.at σ)
       |true=> ∀σ,ne E L.toArray (PX Ss (c+iE es j) σ) (xw needs σ) o (fun x=>PX Ss (c+iE es j+1) (Ot σ (k+j) x)) (fun x=>t.at (Ot σ (k+j) x))):=by
  intro r
  induction r with
  |nil=>intro es k c _ j o h;simp at h
  |cons p r ih=>
    intro es k c h j o ho
    cases es with
    |nil=>exact h.elim
    |cons e es=>
      cases e with
      |false=>
        obtain⟨⟨needs,t,lo,hi,g1,g2,g3,g4,g5,g6,g7,g8⟩,K⟩:=h
        cases j with
        |zero=>
          simp at ho;subst ho
          exact⟨false,rfl,needs,t,g1,g2,g3,g4,g5,g7,lo,hi,g6,g8⟩
        |succ j=>
          obtain⟨e',g1,g2⟩:=ih es (k+1) _ K j o (by simpa using ho)
          refine⟨e',by simpa using g1,?_⟩
          rw [show k+1+j=k+(j+1)from by omega]at g2
          have e1:c+iE (false::es) (j+1)=c+iE es j:=by simp [iE]
          rw [e1];exact g2
      |true=>
        obtain⟨X,K⟩:=h
        cases j with
        |zero=>
          simp at ho;subst ho
          exact⟨true,rfl,X⟩
        |succ j=>
          obtain⟨e',g1,g2⟩:=ih es (k+1) _ K j o (by simpa using ho)
          refine⟨e',by simpa using g1,?_⟩
          rw [show k+1+j=k+(j+1)from by omega]at g2
          have e1:c+iE (true::es) (j+1)=c+1+iE es j:=by simp [iE];omega
          rw [e1];exact g2
structure V8(E:En)(G:mV)(l:List Oper)(ts:List TS)(Ss:List ((Nat->OI)->List OE))(es:List Bool)(done:Array Bool)(a:Act)(w:World)(S:SH)(σ:Nat->OI)(c:Nat):Prop where
 ext:la E.B E.w0 E.S0 w S
 sat:nm w S
 own:fe E.base E.B w S (PX Ss c σ)
 size:a.tmps.size=E.N.n
 defers:a.defers=E.N.ds
 dsz:done.size=l.length
 down: ∀j o,l[j]? =some o->done.getD j false=true-> ∀e∈o.after,Region.binds .any e=true->done.getD e.on false=true
 old: ∀k t,cC G k=some t->(∀j o,l[j]? =some o->done.getD j false=true->o.dst≠some k)->t.p S (a.tmps.getD k undef)
 new: ∀j o aR p,l[j]? =some o->done.getD j false=true->o.dst=some aR->ts[j]? =some p->(p.at σ).p S (a.tmps.getD aR undef)
 deps: ∀j p,done.getD j false=true->ts[j]? =some p-> ∀k∈p.1,done.getD k false=true
 chain: ∀k,es[k]? =some true->(done.getD k false=true↔iE es k<c)
variable{A h1:Type}{S S' :SH}{a:Act}{b:Nat}{done:Array Bool}{ρ:Type}{f:h1->A->Option (ρ×h1)}{κ:Type}{m:List (κ×β)}{v:Value}{w w' :World}
section
variable{ts:List TS}
def V8.need(h:V8 E G L ts Ss es done a w S σ c){i:Nat}(hi:L[i]? =some o)(hun:done.getD i true=false)(hwait: ∀e∈o.after,Region.binds .any e=true->done.getD e.on false=true){needs:List NS}(X:xz G ts needs)(K:(needs.all fun n=>qA L o i (n.at fun _=>ml))=true):cE E.N S a (xw needs σ):=by
 have hlt:i<done.size:=by rw [h.dsz];exact(tp.1 hi).1
 have hun' :done.getD i false=false:=by
  simp [hlt]at hun ⊢;exact hun
 refine⟨h.size,h.defers,?_⟩
 have key: ∀n∈needs,(n.ty σ).p S (a.tmps.getD n.slot undef):=by
  intro n hn
  have hs:=mo.1 K n hn
  have ho:=X.mem n hn
  unfold qA NS.at at hs
  unfold Vo at ho
  cases hsrc:n.src with
  |some j=>
   rw [hsrc]at hs ho
   simp only [pt]at hs
   obtain⟨hs1,hs2⟩:=hs
   cases hj:L[j]? with
   |none=>rw [hj]at hs1;cases hs1
   |some p=>
    rw [hj]at hs1
    cases hd:p.dst with
    |none=>simp only [hd]at hs1;cases hs1
    |some aR=>
     simp only [hd]at hs1
     have hd' :=qy hs1
     subst hd'
     have hdone:done.getD j false=true:=by
      unfold CS at hs2
      obtain⟨e,he0,H⟩:=DG.1 hs2
      have he:e∈o.after:=by simpa using he0
      simp only [pt]at H
      have:=hwait e he H.2
      rwa [qy H.1]at this
     have hm:=ho σ
     cases hf:ts[j]? with
     |none=>rw [hf]at hm;simp at hm
     |some f=>
      rw [hf]at hm
      have e:f.at σ=n.ty σ:=by simpa using hm
      rw [<-e]
      exact h.new j p n.slot f hj hdone hd hf
  |none=>
   rw [hsrc]at hs ho
   refine h.old _ _ (ho σ) fun j p hj hdone hd=>?_
   have:=mo.1 hs p (rC hj)
   simp only [hd,Nat.beq_refl,ug,vE]at this
   unfold CS at this
   obtain⟨e,he0,H⟩:=DG.1 this
   have he:e∈p.after:=by simpa using he0
   simp only [pt]at H
   have h3:=h.down j p hj hdone e he H.2
   rw [qy H.1]at h3
   rw [h3]at hun'
   cases hun'
 clear X K
 intro k t hk
 unfold xw at hk
 induction needs with
 |nil=>simp [kf,cC]at hk
 |cons n needs ih=>
  simp only [DL]at hk
  unfold kf cC at hk
  by_cases H:Nat.beq n.slot k=true
  ·have hb' :Nat.beq (n.at σ).slot k=true:=H
   rw [hb']at hk
   have:=qy H
   subst this
   have h9:some (n.at σ).ty=some t:=by simpa using hk
   have e:n.ty σ=t:=rE h9
   rw [<-e]
   exact key n (qa ..)
  ·rw [AL]at H
   have hb' :Nat.beq (n.at σ).slot k=false:=H
   rw [hb']at hk
   exact ih (fun m hm=>key m (ry _ hm)) hk
def V8.step{σ' :Nat->OI}{c' :Nat}(h:V8 E G L ts Ss es done a w S σ c){i:Nat}{p0:TS}{C:Nat->Prop}(hi:L[i]? =some o)(hdN: ∀aR,o.dst=some aR->aR<E.N.n)(hs2: ∀aR,o.dst=some aR-> ∀j p,L[j]? =some p->done.getD j false=true->p.dst=some aR->i=j)(hwait: ∀e∈o.after,Region.binds .any e=true->done.getD e.on false=true)(D:ts[i]? =some p0)(hun:done.getD i true=false)(hdep: ∀k∈p0.1,k=i\/done.getD k false=true)(hext:la C w S w' S')(hC: ∀b,C b->E.base<=b\/E.B b)(hsat:nm w' S')(hown:fe E.base E.B w' S' (PX Ss c' σ'))(hσ: ∀k,k≠i->σ' k=σ k)(hv:(p0.at σ').p S' v)(hch: ∀k,es[k]? =some true->((done.setIfInBounds i true).getD k false=true↔iE es k<c')):
  V8 E G L ts Ss es (done.setIfInBounds i true) (a.put o.dst v) w' S' σ' c' :=by
 have hlt:i<done.size:=by rw [h.dsz];exact(tp.1 hi).1
 have hset: ∀j,(done.setIfInBounds i true).getD j false=true->j=i\/done.getD j false=true:=fun j hj=>by
  by_cases hij:i=j
  ·exact .inl hij.symm
  ·rw [xn false hij]at hj;exact .inr hj
 have hseti:(done.setIfInBounds i true).getD i false=true:=by simp [hlt]
 have hun' :done.getD i false=false:=by simp [hlt]at hun ⊢;exact hun
 have hput: ∀k,(∀aR,o.dst=some aR->aR≠k)->(a.put o.dst v).tmps.getD k undef=a.tmps.getD k undef:=fun k hk=>by
  cases hd:o.dst with
  |none=>rfl
  |some aR=>
   have hda:aR<a.tmps.size:=by rw [h.size];exact hdN aR hd
   rw [vj hda,bk (hk aR hd)]
 refine⟨h.ext.step hext hC,hsat,hown,?_,?_,by simp [h.dsz],fun j p hj hdone e he H=>?_,fun k u hk hno=>?_,fun j p d' u hj hdone hd' hu=>?_,fun j u hj hu k hk=>?_,hch⟩
 ·cases o.dst with
  |none=>exact h.size
  |some aR=>simp [Act.put,h.size]
 ·cases o.dst with
  |none=>exact h.defers
  |some aR=>exact h.defers
 ·rcases hset j hdone with rfl|hj'
  ·rw [hi]at hj
   have:o=p:=by simpa using hj
   subst this
   exact zq (hwait e he H)
  ·exact zq (h.down j p hj hj' e he H)
 ·rw [hput k fun aR hd e=>hno i o hi hseti (by rw [hd,e])]
  exact u.mono hext.keep (h.old k u hk fun j p hj hdone=>hno j p hj (zq hdone))
 ·by_cases hij:j=i
  ·subst hij
   rw [hi]at hj
   have:o=p:=by simpa using hj
   subst this
   have hda:d' <a.tmps.size:=by rw [h.size];exact hdN d' hd'
   rw [hd',vj hda,bJ rfl]
   rw [D]at hu
   have:p0=u:=by simpa using hu
   subst this
   exact hv
  ·have hj' :=(hset j hdone).resolve_left hij
   rw [hput d' fun aR hd e=>by subst e;exact hij (hs2 aR hd j p hj hj' hd').symm]
   have e1:u.at σ' =u.at σ:=congrArg u.2 (Gi fun k hk=>hσ k fun e=>by
     subst e
     rw [h.deps j u hj' hu k hk]at hun';cases hun')
   rw [e1]
   exact Ty.mono _ hext.keep (h.new j p d' u hj hj' hd' hu)
 ·rcases hset j hj with rfl|hj'
  ·rw [D]at hu
   have:p0=u:=by simpa using hu
   subst this
   rcases hdep k hk with rfl|h'
   ·exact hseti
   ·exact zq h'
  ·exact zq (h.deps j u hj' hu k hk)
end
variable{aK:Exit->Act->World->Prop}
def Jj{l t:List Oper}{ts:List TS}(hsl:xY E.N.n [] l=true)(hlen:ts.length=l.length)(hesl:es.length=l.length)(hd:DS E G (l++t) ts Ss es 0 0 l es)(hch:Mv (l++t) es=true)(D:zI (l++t) l.length t.length=true)(hQ: ∀a w S σ,St E (PX Ss (iE es es.length) σ) (JX l (SM ts σ) G) a w S->wpListIn (fw E.r) 0 E.P (l++t).toArray aK t a w):
  ∀(fuel:Nat) (done:Array Bool) (a:Act) (w:World) (S:SH) (σ:Nat->OI) (c:Nat),mW done=fuel->(∀j,l.length<=j->done.getD j false=false)->c<=iE es es.length->V8 E G (l++t) ts Ss es done a w S σ c->wpAnyIn (fw E.r) 0 E.P .any (l++t).toArray aK fuel done a w:=by
 have hL1: ∀i o,i<l.length->(l++t)[i]? =some o->l[i]? =some o:=fun i o hi h=>by rwa [AP hi]at h
 have hL2: ∀i o,l[i]? =some o->(l++t)[i]? =some o:=fun i o h=>by rw [AP (tp.1 h).1];exact h
 have htail: ∀m o,l.length<=m->(l++t)[m]? =some o->xf (l++t) m=true/\fv m o=true:=fun m o hm ho=>by
  have hml:m<(l++t).length:=(tp.1 ho).1
  rw [mq]at hml
  unfold zI at D
  have:=mo.1 D (m-l.length) (by simp;omega)
  rw [show l.length+(m-l.length)=m from by omega,ho]at this
  simp only [pt]at this
  exact⟨this.1,this.2.1⟩
 have hget:=fun i o (hi:l[i]? =some o)=>DS.get l es 0 0 hd i o hi
 have hedge: ∀i o,(l++t)[i]? =some o->fv i o=true:=fun i o hi=>by
  rcases qb i l.length with h|h
  ·obtain⟨_,_,_,_,_,_,_,h,_⟩:=hget i o (hL1 i o h hi)
   simpa using h
  ·exact(htail i o h hi).2
 obtain⟨hs1,hs2⟩:=CV l [] hsl
 have fin: ∀fuel done a w S σ c,mW done=fuel->(∀j,l.length<=j->done.getD j false=false)->c<=iE es es.length->V8 E G (l++t) ts Ss es done a w S σ c->(∀i,i<l.length->done.getD i false=true)->wpAnyIn (fw E.r) 0 E.P .any (l++t).toArray aK fuel done a w:=by
  intro fuel done a w S σ c hu hfree hcle h hall
  have hcc:c=iE es es.length:=by
   rcases qb c (iE es es.length)with hlt|hge
   ·obtain⟨i,X,K,h3⟩:=xl hlt
    have:=(h.chain i K).1 (hall i (by omega))
    omega
   ·omega
  subst hcc
  refine z1 (n:=l.length) (fun m o hm ho=>(htail m o hm ho).1) hedge t l.length done fuel a w (eJ _) (by simp) h.dsz (fun j hj=>⟨fun hjd=>?_,fun hlt=>hall j hlt⟩) hu
   (hQ a w S σ ⟨h.ext,h.sat,h.own,h.size,h.defers,fun j u hj=>?_⟩)
  ·rcases qb j l.length with h' |h'
   ·exact h'
   ·rw [hfree j h']at hjd;cases hjd
  ·rcases GZ l (SM ts σ) j u (by unfold SM;rw [Gd];exact hlen) hj with⟨i,o,X,K,h3⟩|⟨X,K⟩
   ·unfold SM at h3
    rw [List.getElem?_map]at h3
    cases hf:ts[i]? with
    |none=>rw [hf]at h3;simp at h3
    |some f=>
     rw [hf]at h3
     have e:f.at σ=u:=by simpa using h3
     rw [<-e]
     exact h.new i o j f (hL2 i o X) (hall i (tp.1 X).1) K hf
   ·refine h.old j u X fun i o ho hdn=>?_
    rcases qb i l.length with h' |h'
    ·exact K o (rC (hL1 i o h' ho))
    ·rw [hfree i h']at hdn;cases hdn
 have lower: ∀done a w S σ c i,(∀j,l.length<=j->done.getD j false=false)->V8 E G (l++t) ts Ss es done a w S σ c->i∈Region.ready .any (l++t).toArray done->l.length<=i-> ∀j,j<l.length->done.getD j false=true:=by
  intro done a w S σ c i hfree h hi hge j hj
  obtain⟨hun,p,hp,hwait⟩:=ul.1 hi
  have hp' :(l++t)[i]? =some p:=by simpa using hp
  have hcov:=(htail i p hge hp').1
  unfold xf at hcov
  have hre:=mo.1 hcov j (by simp;omega)
  exact hZ h.down _ i j (fun q hq e he H=>by
   have:q=p:=by rw [hp']at hq;simpa using hq.symm
   subst this
   exact hwait e he H) hre
 have hchain: ∀i j,j<i->es[i]? =some true->es[j]? =some true->pg (l++t) (l++t).length i j=true:=fun i j hij X K=>by
  unfold Mv at hch
  have hil:i<es.length:=(tp.1 X).1
  have:=mo.1 (mo.1 hch i (by simpa using hil)) j (by simpa using hij)
  rw [X,K]at this
  simpa using this
 intro fuel
 induction fuel with
 |zero=>
  intro done a w S σ c hu hfree hcle h
  exact fin 0 done a w S σ c hu hfree hcle h fun i hi=>u5 hu (by rw [h.dsz,mq];omega)
 |succ fuel ih=>
  intro done a w S σ c hu hfree hcle h
  by_cases hall: ∀i,i<l.length->done.getD i false=true
  ·exact fin _ done a w S σ c hu hfree hcle h hall
  have hready0: ∀m i,i<m->i<l.length->Region.ready .any (l++t).toArray done=[]->done.getD i false=true:=by
   intro m
   induction m with
   |zero=>intro i h;omega
   |succ m ihm=>
    intro i him hil hr
    have his:i<done.size:=by rw [h.dsz,mq];omega
    by_cases hdn:done.getD i true=true
    ·rw [<-qo his];exact hdn
    ·exfalso
     obtain⟨o,ho⟩: ∃o,(l++t)[i]? =some o:=⟨l[i],hL2 i _ (lI hil)⟩
     have hmem:i∈Region.ready .any (l++t).toArray done:=by
      rw [ul]
      refine⟨by simpa using hdn,o,by simpa using ho,fun e he H=>?_⟩
      have:=hedge i o ho
      unfold fv at this
      have:=mo.1 this e (by simpa using he)
      simp only [H,ug,vE,vD]at this
      exact ihm e.on (by omega) (by omega) hr
     rw [hr]at hmem;cases hmem
  refine⟨fun hr=>absurd (fun i hi=>hready0 (i+1) i (by omega) hi hr) hall,fun i hi=>?_⟩
  have hil:i<l.length:=by
   rcases qb i l.length with h' |h'
   ·exact h'
   ·exact absurd (lower done a w S σ c i hfree h hi h') hall
  obtain⟨hun,o,ho,hwait⟩:=ul.1 hi
  have ho' :(l++t)[i]? =some o:=by simpa using ho
  have hol:=hL1 i o hil ho'
  obtain⟨e,he,needs,u,X,K,h3,_,h4,h5⟩:=hget i o hol
  rw [uT]at X h3 h4
  have hF:=h.need ho' hun hwait K h3
  have his:i<done.size:=by rw [h.dsz,mq];omega
  have hun' :done.getD i false=false:=by rw [<-qo his];exact hun
  have hu' :mW (done.setIfInBounds i true)=fuel:=by have:=sq hun;omega
  have huq: ∀aR,o.dst=some aR-> ∀j p,(l++t)[j]? =some p->done.getD j false=true->p.dst=some aR->i=j:=fun aR hdd j p hj hjd hpd=>by
   rcases qb j l.length with h' |h'
   ·exact hs2 i j o p aR hol (hL1 j p h' hj) hdd hpd
   ·rw [hfree j h']at hjd;cases hjd
  have hfree' : ∀j,l.length<=j->(done.setIfInBounds i true).getD j false=false:=fun j hj=>by
   rw [xn false (by omega)];exact hfree j hj
  have hbl:E.base<=w.heap.size:=h.ext.size
  have hwaits: ∀q,(l++t)[i]? =some q-> ∀e∈q.after,Region.binds .any e=true->done.getD e.on false=true:=fun q hq e he H=>by
   have:q=o:=by rw [ho']at hq;simpa using hq.symm
   subst this
   exact hwait e he H
  have hdpp: ∀k∈u.1,k=i\/done.getD k false=true:=fun k hk=>by
   have:=mo.1 h4 k hk
   simp only [pt,AK]at this
   rcases this.2 with H|H
   ·exact .inl (qy H)
   ·exact .inr (hZ h.down _ i k hwaits H)
  have hdNN: ∀aR,o.dst=some aR->aR<E.N.n:=fun aR hd=>(hs1 o (rC hol) aR hd).1
  unfold wpOpIn
  rw [ho]
  show if _ then _ else _
  cases e with
  |false=>
   simp only at h5
   obtain⟨hdS,lo,hi',hwin,h5⟩:=h5
   rw [uT]at hwin
   obtain⟨aR,hdd⟩:=MO.1 hdS
   have hdN:=(hs1 o (rC hol) aR hdd).1
   unfold Wm at hwin
   rw [pt]at hwin
   obtain⟨hw1,hw2⟩:=hwin
   have hw1' :=sn hw1
   have hwk: ∀k,es[k]? =some true->(Nat.ble lo (iE es k)=true\/pg (l++t) (l++t).length i k=true)/\(Nat.blt (iE es k) hi' =true\/pg (l++t) (l++t).length k i=true):=fun k hk=>by
    have hkl:k<es.length:=(tp.1 hk).1
    have:=mo.1 hw2 k (by simpa using hkl)
    rw [hk]at this
    simpa using this
   have hlo:lo<=c:=by
    rcases qb c lo with hlt|hge
    ·exfalso
     obtain⟨k,hk1,hk2,hk3⟩:=xl (es:=es) (c:=c) (k:=es.length) (by omega)
     rcases(hwk k hk2).1 with H|H
     ·have:=sn H;omega
     ·have:=(h.chain k hk2).1 (hZ h.down _ i k hwaits H)
      omega
    ·exact hge
   have hhi:c<=hi' :=by
    rcases qb hi' c with hlt|hge
    ·exfalso
     obtain⟨k,hk1,hk2,hk3⟩:=xl (es:=es) (c:=hi') (k:=es.length) (by omega)
     rcases(hwk k hk2).2 with H|H
     ·simp only [vD]at H;omega
     ·have hkd:done.getD k false=true:=(h.chain k hk2).2 (by omega)
      have:=hZ h.down _ k i (fun q hq e he H=>h.down k q hq hkd e he H) H
      rw [this]at hun';cases hun'
    ·exact hge
   have h6:=h5 c σ hlo hhi a w S h.sat h.own hF
   have hch' : ∀k,es[k]? =some true->((done.setIfInBounds i true).getD k false=true↔iE es k<c):=fun k hk=>by
    have hne:i≠k:=fun e=>by subst e;rw [he]at hk;cases hk
    rw [xn false hne];exact h.chain k hk
   by_cases hw:Region.wanted o (yielded (l++t).toArray a.tmps)=true
   ·rw [bJ hw]at h6 ⊢
    refine mH (fun a' w' ⟨v,S',ha,V,hs,hv⟩=>?_) h6
    subst ha
    exact ih _ _ _ S' _ c hu' hfree' hcle (h.step ho' hdNN huq hwait X hun hdpp V (fun _ H=>H.elim) hs (h.own.ext0 V) (fun _ _=>rfl) hv hch')
   ·rw [bk hw]at h6 ⊢
    exact⟨fun _ _=>trivial,ih _ _ _ S _ c hu' hfree' hcle (h.step ho' hdNN huq hwait X hun hdpp (jS uX _ _) (fun _ H=>H.elim) h.sat h.own (fun _ _=>rfl) h6 hch')⟩
  |true=>
   simp only [uT]at h5
   -- it is the next one of the chain
   have hca:iE es i=c:=by
    have hn: ¬iE es i<c:=fun hlt=>by rw [(h.chain i he).2 hlt]at hun';cases hun'
    rcases qb c (iE es i)with hlt|hge
    ·exfalso
     obtain⟨k,hk1,hk2,hk3⟩:=xl hlt
     have hkd:done.getD k false=true:=hZ h.down _ i k hwaits (hchain i k hk1 he hk2)
     have:=(h.chain k hk2).1 hkd
     omega
    ·omega
   subst hca
   have h6:=h5 σ a w S h.sat h.own hF hbl
   have hch' : ∀k,es[k]? =some true->((done.setIfInBounds i true).getD k false=true↔iE es k<iE es i+1):=fun k hk=>by
    by_cases hik:i=k
    ·subst hik
     constructor
     ·intro _;omega
     ·intro _;simp [his]
    ·rw [xn false hik,h.chain k hk]
     constructor
     ·intro h;omega
     ·intro hlt
      rcases qb i k with hlk|hlk
      ·have:=Fp hlk he;omega
      ·exact Fp (by omega) hk
   have hcle' :iE es i+1<=iE es es.length:=Fp (by omega) he
   by_cases hw:Region.wanted o (yielded (l++t).toArray a.tmps)=true
   ·rw [bJ hw]at h6 ⊢
    refine mH (fun a' w' ⟨v,S',x,ha,V,hs,hown,hv⟩=>?_) h6
    subst ha
    exact ih _ _ _ S' _ _ hu' hfree' hcle' (h.step ho' hdNN huq hwait X hun hdpp V (fun b ⟨f,hf,H⟩=>(fe.mem h.own f hf).2 b H) hs hown (fun k hk=>HF σ x hk) hv hch')
   ·rw [bk hw]at h6 ⊢
    obtain⟨x,hown,hv⟩:=h6
    exact⟨fun _ _=>trivial,ih _ _ _ S _ _ hu' hfree' hcle' (h.step ho' hdNN huq hwait X hun hdpp (jS uX _ _) (fun _ H=>H.elim) h.sat hown (fun k hk=>HF σ x hk) hv hch')⟩
variable{O:List OE}{st:TypeId}
def ja{id:Nat}(m:Nat)(ts:List TS)(es:List Bool)(Ss:List ((Nat->OI)->List OE))(hO:Ss[0]? =some fun _=>O)(hm:E.P.follows .mixedOrders=true)(hsl:xY E.N.n [] (L.take m)=true)(hlen:ts.length=(L.take m).length)(hesl:es.length=(L.take m).length)(hch:Mv L es=true)(D:zI L (L.take m).length (L.drop m).length=true)(hd:DS E G L ts Ss es 0 0 (L.take m) es)(k: ∀σ:Nat->OI,RG E L.toArray aK (L.drop m) (PX Ss (iE es es.length) σ) (JX (L.take m) (SM ts σ) G)):CG E aK (.region id L.toArray true) O G:=fun a w S st=>by
 have hL:L=L.take m++L.drop m:=(ui m L).symm
 generalize L.take m=l at hL hsl hlen hesl D hd k
 generalize L.drop m=t at hL D k
 subst hL
 refine wpIn_region_any hm ?_
 obtain⟨he,hs⟩:=yP (w:=w) st.sat
 have hO0:PX Ss 0 (fun _=>ml)=O:=by unfold PX;rw [hO]
 refine Jj hsl hlen hesl hd hch D (fun a w S σ st=>k σ a w S st) _ _ _ _ S (fun _=>ml) 0 ?_ (fun j _=>?_) (oW _)
  ⟨st.ext.step0 he,hs,by rw [hO0];exact st.own.ext0 he,st.facts.size,st.facts.defers,by simp,fun j o hj hdone=>?_,fun k t hk _=>st.facts.at_ k t hk,fun j o aR t hj hdone=>?_,fun j p hdone=>?_,fun k _=>⟨fun hdone=>?_,fun h=>(by omega)⟩⟩
 ·unfold mW;rw [MM,MK];simp
 ·simp [zX];split<;>rfl
 ·simp [zX]at hdone
  split at hdone<;>simp at hdone
 ·simp [zX]at hdone
  split at hdone<;>simp at hdone
 ·simp [zX]at hdone
  split at hdone<;>simp at hdone
 ·simp [zX]at hdone
  split at hdone<;>simp at hdone
def py{p:Nat->(Nat->OI)->Prop}{lo:Nat}(h: ∀σ,p lo σ): ∀c σ,lo<=c->c<=lo->p c σ:=fun c σ X K=>by
 have:c=lo:=by omega
 subst this;exact h σ
def DY{p:Nat->(Nat->OI)->Prop}{lo hi:Nat}(h: ∀σ,p lo σ)(k: ∀c σ,lo+1<=c->c<=hi->p c σ): ∀c σ,lo<=c->c<=hi->p c σ:=fun c σ X K=>by
 by_cases e:c=lo
 ·subst e;exact h σ
 ·exact k c σ (by omega) K
variable{after:Array Edge}{g:Option (Nat×Bool)}{ok:α->Prop}{op:Op}{pos:String}{post:OI->List OE}
def Fc{ty:TypeId}(hnd: ∀c,op≠ .defer c)(h: ∀a w S,nm w S->fe E.base E.B w S O->cE E.N S a G->E.base<=w.heap.size-> ∃w' S' x,(execOp a.eval ⟨none,op,ty,pos,after,g⟩).run E.P w= .ok .skip w' /\la (Ha O) w S w' S' /\nm w' S' /\fe E.base E.B w' S' (post x)):
  EffOK E O G ⟨none,op,ty,pos,after,g⟩ post (fun _=>D8):=fun a w S hs ho hf H=>by
 obtain⟨w',S',x,X,K,h3,h4⟩:=h a w S hs ho hf H
 refine⟨hnd,?_⟩
 rw [X]
 exact⟨undef,S',x,rfl,K,h3,h4,trivial⟩

abbrev HL:=List (Nat×Value)
def Bo:HL->Nat->Option Value
 |[],_=>none
 |p::hs,o=>bif Nat.beq p.1 o then some p.2 else Bo hs o
def ud: ∀{hs:HL} {o:Nat} {v:Value},Bo hs o=some v->(o,v)∈hs
 |[],_,_,h=>by cases h
 |p::hs,o,v,h=>by
  unfold Bo at h
  by_cases H:Nat.beq p.1 o=true
  ·rw [H]at h
   have e1:=qy H
   have e2:p.2=v:=rE h
   subst e1 e2
   exact qa ..
  ·rw [AL]at H
   rw [H]at h
   exact ry _ (ud h)
def rH{α:Type}(r:Rp α)(hs:HL):Rp α where
 sz:=r.sz
 agg:=r.agg
 rc:=fun S cs x=>r.rc S cs x/\ ∀p∈hs,cs[p.1]? =some p.2
 mono:=fun h k=>⟨r.mono h k.1,k.2⟩
 len:=fun k=>r.len k.1
 one:=fun k=>r.one k.1
 sc:=r.sc
variable{cs:List Value}{off:Nat}
def fF{hs:HL}{get:α->β}(h:md r off q get):md (rH r hs) off q get:=fun S cs x k=>h S cs x k.1
def Pz(h:cs[off]? =some v):(cs.drop off).take 1=[v]:=by
 have hlt:=(tp.1 h).1
 rw [AO hlt,(tp.1 h).2]
 rfl
def ab5{hs:HL}(h:Bo hs off=some v):md (rH r hs) off rV (fun _=>v):=fun S cs x k=>by
 have X:=k.2 _ (ud h)
 exact⟨Pz X,r.one k.1 v (rC X)⟩
def HZ(z:List Value):HL->Prop
 |[]=>True
 |p::hs=>z[p.1]? =some p.2/\HZ z hs
variable{z:List Value}
def HZ.all: ∀{hs:HL},HZ z hs-> ∀p∈hs,z[p.1]? =some p.2
 |_::_,⟨h,_⟩,_,.head _=>h
 |_::_,⟨_,h⟩,_,.tail _ hm=>HZ.all h _ hm
def zH{x:α}{hs:HL}(h: ∀S,r.rc S z x)(k:HZ z hs): ∀S,(rH r hs).rc S z x:=fun S=>⟨h S,k.all⟩
def Xa(hs:HL)(off sz:Nat):Bool:=hs.all fun p=>Nat.blt p.1 off||Nat.ble (off+sz) p.1
def YC(hs:HL)(off sz:Nat)(v:Option Value):HL->Prop
 |[]=>True
 |p::l=>((v=some p.2/\p.1=off/\sz=1)\/(Bo hs p.1=some p.2/\(Nat.blt p.1 off||Nat.ble (off+sz) p.1)=true))/\YC hs off sz v l
variable{sz:Nat}
def YC.all{hs:HL}{v:Option Value}: ∀{l:HL},YC hs off sz v l-> ∀p∈l,(v=some p.2/\p.1=off/\sz=1)\/(Bo hs p.1=some p.2/\(Nat.blt p.1 off||Nat.ble (off+sz) p.1)=true)
 |_::_,⟨h,_⟩,_,.head _=>h
 |_::_,⟨_,h⟩,_,.tail _ hm=>YC.all h _ hm
def vx{ds:List Value}{k:Nat}(hl:ds.length=sz)(hoff:off+sz<=cs.length)(h:(Nat.blt k off||Nat.ble (off+sz) k)=true):(cs.take off++ds++cs.drop (off+sz))[k]? =cs[k]? :=by
 simp only [AK,vD,Nat.ble_eq]at h
 have D:(cs.take off).length=off:=by simp;omega
 rcases h with h|h
 ·rw [AP (by simp;omega),AP (by omega),zu h]
 ·rw [xC (by simp;omega),wF]
  congr 1
  simp only [mq,D,hl];omega
def Sd{ds:List Value}(hd:ds=[v])(hoff:off+1<=cs.length):(cs.take off++ds++cs.drop (off+1))[off]? =some v:=by
 subst hd
 have D:(cs.take off).length=off:=by simp;omega
 rw [AP (by simp;omega),xC (by omega),D,xo]
 rfl
variable{set:α->β->α}{y:Code}
def pC{hs hs' :HL}{x:α}{y:β}(h:gg r off q set)(hk:YC hs off q.sz none hs')(hoff:Nat.ble (off+q.sz) r.sz=true):sm (rH r hs) (rH r hs') off q x y (set x y):=fun S cs ds X K=>by
 refine⟨h S cs x ds y X.1 K,fun p hp=>?_⟩
 rcases hk.all p hp with⟨e,_⟩|⟨g1,g2⟩
 ·cases e
 ·have hl:=r.len X.1
  rw [vx (q.len K) (by have:=sn hoff;omega) g2]
  exact X.2 _ (ud g1)
def GE{hs:HL}(h:gg r off q set)(hk:Xa hs off q.sz=true)(hoff:Nat.ble (off+q.sz) r.sz=true):gg (rH r hs) off q set:=fun S cs x ds y X K=>by
 refine⟨h S cs x ds y X.1 K,fun p hp=>?_⟩
 have hl:=r.len X.1
 rw [vx (q.len K) (by have:=sn hoff;omega) (mo.1 hk p hp)]
 exact X.2 _ hp
variable{T U:TypeId}{hx:MV β}{agg:Bool}{bytes cap:Nat}{dst:Option Tmp}{ops:Array Oper}{rest:List Oper}{xs:List α}
section
variable{c:Code}{e:Exit}
section
variable{ty:TypeId}
def fK{t:OI->Ty}(h:EffOK E O G ⟨none,op,ty,pos,after,none⟩ post t)(k: ∀x,RG E ops aK rest (post x) G):RG E ops aK (⟨none,op,ty,pos,after,none⟩::rest) O G:= .of rfl fun a w S st=>
 oO (fun a' w' ⟨v,S',x,ha,V,hs,ho,hv⟩=>by
  subst ha
  exact k x _ _ S' ⟨st.ext.step V fun b ⟨f,hf,H⟩=>(fe.mem st.own f hf).2 b H,hs,ho,st.facts.mono V.keep⟩) (h a w S st.sat st.own st.facts st.base_le)
def dF{γ:Type}{r' :Rp γ}{x:α}{x' :γ}{y:β}{v:Operand}(ti:TI E.P U sz bytes agg z)(hsz:q.sz=sz)(hset:sm r r' off q x y x')(hoff:Nat.ble (off+q.sz) r.sz=true)(hp:aY E.N G p (M (Z b off)))(hv:aY E.N G v (tD q y)):EffOK E (bx r T b x::O) G ⟨none,.store U p v,ty,pos,after,g⟩ (fun _=>bx r' T b x' ::O) (fun _=>D8):=Fc (fun _ h=>(by cases h)) fun a w S hs ho hf H=>by
 have X:a.eval p=Z b off:=hp S a hf
 obtain⟨ds,K,h3⟩:=hv S a hf
 obtain⟨⟨hno,cur,h5,h6⟩,_⟩:=ho.1
 have hl:=r.len h6
 have hoff' :=sn hoff
 obtain⟨w',hr,e1,e2,e3,e4,e5,e6⟩:=kW ti hsz h3 h5 (off:=off) (by simp at hl;omega)
 have hrun:(execOp a.eval ⟨none,.store U p v,ty,pos,after,g⟩).run E.P w= .ok .skip w' :=by
  simp [execOp,X,K,Instr.storeAt,Z,Instr.sureAddr,hr]
 obtain⟨g1,g2,g3⟩:=oN (O:=O) hs (bx r T b x) (bx r' T b x') ho (fun _=>uk) (fun _=>uk) ⟨e1,e2,e3,e4.1,e4.2⟩ e6 ⟨hno,_,e5,by simpa using hset S _ _ h6 h3⟩ hno
 exact⟨w',S,ml,hrun,g1.more fun k hk=>⟨_,qa ..,hk⟩,g2,g3⟩
def m9{hs hs' :HL}{x:α}{y:β}{u:Value}{v:Operand}(ti:TI E.P U 1 bytes false z)(hsz:q.sz=1)(hag:q.agg=false)(hset:gg r off q set)(hoff:Nat.ble (off+1) r.sz=true)(hk:YC hs off 1 (some u) hs')(hp:aY E.N G p (M (Z b off)))(hv:aY E.N G v (tD q y))(hu:aY E.N G v (M u)):EffOK E (bx (rH r hs) T b x::O) G ⟨none,.store U p v,ty,pos,after,g⟩ (fun _=>bx (rH r hs') T b (set x y)::O) (fun _=>D8):=Fc (fun _ h=>(by cases h)) fun a w S hsat ho hf H=>by
 have X:a.eval p=Z b off:=hp S a hf
 obtain⟨ds,K,h3⟩:=hv S a hf
 have hu' :a.eval v=u:=hu S a hf
 obtain⟨⟨hno,cur,h5,h6⟩,_⟩:=ho.1
 have hl:=r.len h6.1
 have hoff' :=sn hoff
 have hdl:=q.len h3
 have hds:ds=[u]:=by
  obtain⟨aR,hd⟩:=List.length_eq_one_iff.1 (by rw [hdl,hsz]:ds.length=1)
  subst hd
  have e1:q.val [aR]=aR:=by simp [Rp.val,hag]
  rw [K,e1]at hu'
  rw [hu']
 obtain⟨w',hr,e1,e2,e3,e4,e5,e6⟩:=kW ti hsz h3 h5 (off:=off) (by simp at hl;omega)
 have hrun:(execOp a.eval ⟨none,.store U p v,ty,pos,after,g⟩).run E.P w= .ok .skip w' :=by
  simp [execOp,X,K,Instr.storeAt,Z,Instr.sureAddr,hr]
 rw [hsz]at e5
 have hnew:(rH r hs').rc S (cur.toList.take off++ds++cur.toList.drop (off+1)) (set x y):=by
  have h7:=hset S _ _ _ _ h6.1 h3
  rw [hsz]at h7
  refine⟨h7,fun p hp=>?_⟩
  rcases hk.all p hp with⟨f1,f2,_⟩|⟨f1,f2⟩
  ·rw [f2]
   exact Sd (by rw [hds,rE f1]) (by omega)
  ·rw [vx (by rw [hdl,hsz]) (by omega) f2]
   exact h6.2 _ (ud f1)
 obtain⟨g1,g2,g3⟩:=oN (O:=O) hsat (bx (rH r hs) T b x) (bx (rH r hs') T b (set x y)) ho (fun _=>uk) (fun _=>uk) ⟨e1,e2,e3,e4.1,e4.2⟩ e6 ⟨hno,_,e5,by simpa using hnew⟩ hno
 exact⟨w',S,ml,hrun,g1.more fun k hk=>⟨_,qa ..,hk⟩,g2,g3⟩
end
section
variable{ty:TypeId}
def eQ{hs:HL}{x:α}{u:Value}(ti:TI E.P U 1 bytes false z)(hk:Bo hs off=some u)(hm:bx (rH r hs) T b x∈O)(hp:aY E.N G p (M (Z b off))):
  cI E O G ⟨dst,.load U p,ty,pos,after,g⟩ (M u):=(aL (q:=rV) ti rfl rfl (ab5 hk) hm hp).imp fun _ _ h=>(yV.1 h).1
def nE{q:Rp α}{r:Rp β}{hs:HL}{x:β}{hx:TypeId}{l:Option Nat}(ti:TI E.P U 1 bytes false z)(hk:Bo hs off=some (ay l cap xs.length))(hm:bx (rH r hs) T b x∈O)(hm2:tip q hx l cap xs∈O)(hp:aY E.N G p (M (Z b off))):
  cI E O G ⟨dst,.load U p,ty,pos,after,g⟩ (tO q l cap xs):=fun a w S hs' ho hf=>
 oO (fun _ _ ⟨v,S',X,K,h3,h4⟩=>⟨v,S',X,K,h3,h4,by
  have h5:v=ay l cap xs.length:=h4
  rw [h5]
  exact nr (((ho.ext0 K).mem _ hm2).1)⟩) (eQ (g:=g) (ty:=ty) (pos:=pos) (after:=after) (dst:=dst) ti hk hm hp a w S hs' ho hf)
def TG{t:Ty}{x:Operand}(X: ∀S v,t.p S v->v.oneCell' =true)(V:aY E.N G x t):cI E O G ⟨dst,.box T x,ty,pos,after,g⟩ (ck (rT t) ()):=
 Q8 (fun S a hf=>tRT.2 ⟨X _ _ (V S a hf),V S a hf⟩)
end
def Tf:HL->HL->Prop
 |[],_=>True
 |p::l,hs=>Bo hs p.1=some p.2/\Tf l hs
def Tf.all{hs:HL}: ∀{l:HL},Tf l hs-> ∀p∈l,p∈hs
 |_::_,⟨h,_⟩,_,.head _=>ud h
 |_::_,⟨_,h⟩,_,.tail _ hm=>Tf.all h _ hm
end

variable{O' :List OE}
def EffOK.perm{t:OI->Ty}(h:EffOK E O' G o post t)(k: ∀{w S},fe E.base E.B w S O->fe E.base E.B w S O')(m: ∀f∈O',f∈O):EffOK E O G o post t:=fun a w S hs ho hf H=>
 oO (fun _ _ ⟨v,S',x,X,K,h3,h4,h5⟩=>⟨v,S',x,X,K.more fun _ ⟨f,hf,hk⟩=>⟨f,m f hf,hk⟩,h3,h4,h5⟩) (h a w S hs (k ho) hf H)
variable{x0 x1 x2 x3 x4 x5:OE}
namespace EffOK
section
variable{t:OI->Ty}
def fr1(h:EffOK E (x1::x0::O) G o post t):EffOK E (x0::x1::O) G o post t:=h.perm (fun hw=>fe.swap hw) (fun f hf=>by simp only [kj]at hf ⊢;rcases hf with h|h|h<;>simp [h])
def fr2(h:EffOK E (x2::x0::x1::O) G o post t):EffOK E (x0::x1::x2::O) G o post t:=h.perm (fun hw=>sS hw) (fun f hf=>by simp only [kj]at hf ⊢;rcases hf with h|h|h|h<;>simp [h])
def fr3(h:EffOK E (x3::x0::x1::x2::O) G o post t):EffOK E (x0::x1::x2::x3::O) G o post t:=h.perm (fun hw=>uR hw) (fun f hf=>by simp only [kj]at hf ⊢;rcases hf with h|h|h|h|h<;>simp [h])
def fr4(h:EffOK E (x4::x0::x1::x2::x3::O) G o post t):EffOK E (x0::x1::x2::x3::x4::O) G o post t:=h.perm (fun hw=>uQ hw) (fun f hf=>by simp only [kj]at hf ⊢;rcases hf with h|h|h|h|h|h<;>simp [h])
def fr5(h:EffOK E (x5::x0::x1::x2::x3::x4::O) G o post t):EffOK E (x0::x1::x2::x3::x4::x5::O) G o post t:=h.perm (fun hw=>uP hw) (fun f hf=>by simp only [kj]at hf ⊢;rcases hf with h|h|h|h|h|h|h<;>simp [h])
def fr6{x6:OE}(h:EffOK E (x6::x0::x1::x2::x3::x4::x5::O) G o post t):EffOK E (x0::x1::x2::x3::x4::x5::x6::O) G o post t:=h.perm (fun hw=>uO hw) (fun f hf=>by simp only [kj]at hf ⊢;rcases hf with h|h|h|h|h|h|h|h<;>simp [h])
def fr7{x6 x7:OE}(h:EffOK E (x7::x0::x1::x2::x3::x4::x5::x6::O) G o post t):EffOK E (x0::x1::x2::x3::x4::x5::x6::x7::O) G o post t:=h.perm (fun hw=>Fx hw) (fun f hf=>by simp only [kj]at hf ⊢;rcases hf with h|h|h|h|h|h|h|h|h<;>simp [h])
def post_imp{post' :OI->List OE}(h:EffOK E O G o post t)(k: ∀{w S x},fe E.base E.B w S (post x)->fe E.base E.B w S (post' x)):EffOK E O G o post' t:=fun a w S hs ho hf H=>
 oO (fun _ _ ⟨v,S',x,X,K,h3,h4,h5⟩=>⟨v,S',x,X,K,h3,k h4,h5⟩) (h a w S hs ho hf H)
end
end EffOK
variable{P:Program}{args:A->List Ty}{res:ρ->Ty}
section
variable{ty:TypeId}
def Mr{zs:List α}{y v:α}{i:Int}{x:Operand}(ti:TI E.P U sz bytes agg z)(hsz:r.sz=sz)(hy:gB xs i=some y)(hz:xs.set i.toNat v=zs)(hp:aY E.N G p (M (Z b (i.toNat*r.sz))))(hv:aY E.N G x (tD r v)):EffOK E (bx (o7 r n) T b xs::O) G ⟨none,.store U p x,ty,pos,after,g⟩ (fun _=>bx (o7 r n) T b zs::O) (fun _=>D8):=Fc (fun _ h=>(by cases h)) fun a w S hsat hown hf hbase=>by
 subst hz
 have X:a.eval p=Z b (i.toNat*r.sz):=hp S a hf
 obtain⟨ds,K,h3⟩:=hv S a hf
 obtain⟨⟨hno,cur,h5,h6⟩,_⟩:=hown.1
 obtain⟨h0,hy'⟩:=ow hy
 have hlt:i.toNat<xs.length:=(tp.1 hy').1
 have hl:=ll h6.2
 simp only [CN]at hl
 have hmul:i.toNat*r.sz+r.sz<=xs.length*r.sz:=by rw [<-Nat.succ_mul];exact AN _ hlt
 obtain⟨w',hr,e1,e2,e3,e4,e5,e6⟩:=kW ti hsz h3 h5 (off:=i.toNat*r.sz) (by omega)
 have hrun:(execOp a.eval ⟨none,.store U p x,ty,pos,after,g⟩).run E.P w= .ok .skip w' :=by
  simp [execOp,X,K,Instr.storeAt,Z,Instr.sureAddr,hr]
 obtain⟨g1,g2,g3⟩:=oN (O:=O) hsat (bx (o7 r n) T b xs) (bx (o7 r n) T b (xs.set i.toNat v)) hown (fun _=>uk) (fun _=>uk) ⟨e1,e2,e3,e4.1,e4.2⟩ e6 ⟨hno,_,e5,by rw [Dd];exact h6.1,Ds h3 h6.2 hlt⟩ hno
 exact⟨w',S,ml,hrun,g1.more fun c hc=>⟨_,qa ..,hc⟩,g2,g3⟩

section
def zb{x:α}(ti:TI E.P T sz bytes agg z)(V: ∀S,r.rc S z x):
  EffOK E O G ⟨some aR,.alloc T,ty,pos,after,g⟩ (fun i=>bx r T (i.h 0).2 x::O) (fun i=>M (Z (i.h 0).2 0)):=fun a w S hs ho hf H=>by
 obtain⟨zv,hzr,hzc⟩:=ti.zero w
 obtain⟨he,hs',hno⟩:=ki (w:=w) (.cells z.toArray T (0,0)) hs
 have hrun:(execOp a.eval ⟨some aR,.alloc T,ty,pos,after,g⟩).run E.P w= .ok (.value (Z w.heap.size 0)) (w.alloc (.cells z.toArray T (0,0))):=by
  simp [execOp,Instr.alloc,hzr,newVar,newRow,hzc,Z]
 refine⟨fun c h=>(by cases h),?_⟩
 rw [hrun]
 exact⟨_,S,oi none w.heap.size,rfl,he.more fun _ H=>H.elim,hs',s3 ho he (e:=bx r T w.heap.size x) ⟨hno,z.toArray,xS w _,by simpa using V S⟩ (fun b H=>AR H.symm) H,rfl⟩
end
section
def aO{x:Operand}(V:aY E.N G x (M (Z b off))):cI E O G ⟨dst,.nilCheck x,ty,pos,after,g⟩ (M (Z b off)):= .of_pure fun a w S _ _ hf=>by
 have X:a.eval x=Z b off:=V S a hf
 exact⟨Z b off,by simp [execOp,X,Z],rfl⟩
def TD{y:α}{x:Operand}(V:aY E.N G x (ck r y)):cI E O G ⟨dst,.nilCheck x,ty,pos,after,g⟩ (ck r y):= .of_pure fun a w S _ _ hf=>by
 have h0:=V S a hf
 obtain⟨b,off,c,U,fr,X,K,h3⟩:=h0
 exact⟨_,by simp [execOp,X],b,off,c,U,fr,rfl,K,h3⟩
def gI{u:Value}(ti:TI E.P U 1 bytes false z)(hm:bx rV T b u∈O)(hp:aY E.N G p (M (Z b 0))):
  cI E O G ⟨dst,.load U p,ty,pos,after,g⟩ (M u):=(aL (q:=rV) (get:=fun x=>x) ti rfl rfl bC hm hp).imp fun _ _ h=>(yV.1 h).1
def wm{t:Ty}(ti:TI E.P U 1 bytes false z)(hp:aY E.N G p (ck (rT t) ())):cI E O G ⟨dst,.load U p,ty,pos,after,g⟩ t:=J6 ti hp
end
def Ft(h:O=O')(k:RG E ops aK rest O' G):RG E ops aK rest O G:=by subst h;exact k
def hW{x:Operand}{u:Value}(h:aY N G x (M u))(ho:u.oneCell' =true):aY N G x (tD rV u):=fun S a hf=>yV.2 ⟨h S a hf,ho⟩
def hTT{x:Operand}{t:Ty}(X: ∀S v,t.p S v->v.oneCell' =true)(h:aY N G x t):aY N G x (tD (rT t) ()):=fun S a hf=>tRT.2 ⟨X _ _ (h S a hf),h S a hf⟩
def TC{args:α->List Ty}{res:β->Ty}{f:α->Option β}: ∀S v,(mI P args res f).p S v->v.oneCell' =true:=fun _ _ ⟨_,_,e,_⟩=>by rw [e];rfl
end

variable{mm:Bool}{ys:List α}
def Jv{l:Option Nat}{t' e' :TypeId}(D:P.underlying t' =some (.slice e'))(h:AE mm r U l cap xs w S)(hs:eX xs lo (xs.length:Int)=some ys):
  ∃news,Src P r.sz t' (oZ r.sz l cap lo.toNat ys.length) ys.length news w/\sh r S news ys:=by
 obtain⟨cells,X,K,_⟩:=h
 obtain⟨lo',m,rfl,hm,h3,h4,rfl⟩:=gY hs
 have hm' :m=xs.length:=by omega
 subst hm'
 rw [DF,xM]
 cases l with
 |none=>
  have V:xs=[]:=tH X.1
  subst V
  exact⟨[],by simpa [oZ] using Src.ofNil w D 0,by simp [sh]⟩
 |some b=>
  obtain⟨cur,g1,g2,g3,g4,g5⟩:=X
  have hlen:(xs.drop lo').length=xs.length-lo' :=by simp
  have hcl:=ll K
  have hsp:xs=xs.take lo' ++xs.drop lo' :=(ui lo' xs).symm
  have htl:(xs.take lo').length=lo' :=by simp;omega
  have hr:sh r S (cells.drop (lo' *r.sz)) (xs.drop lo'):=by
   rw [hsp]at K
   have:=(ri K).2
   rwa [htl]at this
  have hmul:lo' *r.sz<=xs.length*r.sz:=AN _ h3
  refine⟨cells.drop (lo' *r.sz),?_,hr⟩
  unfold oZ
  refine Src.ofSlice w D _ _ _ _ (ll hr) (fun j u hu=>?_) (yZ hr)
  by_cases hc:cap=lo'
  ·have:xs.drop lo' =[]:=Hx (by omega)
   rw [this]at hr
   have hr' :cells.drop (lo' *r.sz)=[]:=hr
   rw [hr']at hu;simp at hu
  ·simp only [hc,oV]
   rw [jR,xh g1]
   rw [wF,<-g5]at hu
   have hj:lo' *r.sz+j<xs.length*r.sz:=by
    have:=(tp.1 hu).1
    simp at this;omega
   rw [zu hj]at hu
   simpa using hu
variable{yt:TypeId}
section
variable{ty:TypeId}
def PF{l:Option Nat}{x:Operand}(D:E.P.underlying t=some (.slice e))(hm:nd mm r U l cap xs∈O)(hs:eX xs lo (xs.length:Int)=some ys)(V:aY E.N G x (M (oZ r.sz l cap lo.toNat ys.length)))(hd:Nat.blt aR E.N.n=true)(k: ∀b,(b=true->ys=[])->RG E ops aK rest O ((aR,tD rB b)::G)):RG E ops aK (⟨some aR,.binOp .eql t x (.const (.slice none 0 0)) yt,ty,pos,after,none⟩::rest) O G:= .of rfl fun a w S st=>by
 have X:a.eval x=oZ r.sz l cap lo.toNat ys.length:=V S a st.facts
 obtain⟨⟨cells,hraw,_⟩,_⟩:=st.own.mem _ hm
 have hcn:a.eval (.const (.slice none 0 0))= .slice none 0 0:=rfl
 cases l with
 |none=>
  have hx0:xs=[]:=tH hraw.1
  have hy0:ys=[]:=by
   obtain⟨lo',m,_,_,_,_,rfl⟩:=gY hs
   subst hx0;simp
  have h3:(Op.equal t (.slice none 0 0) (.slice none 0 0)).run E.P w= .ok true w:=yX fun aR=>by
   simp [Op.equalIn,j3 D]
  have hrun:(execOp a.eval ⟨some aR,.binOp .eql t x (.const (.slice none 0 0)) yt,ty,pos,after,none⟩).run E.P w= .ok (.value (.bool true)) w:=by
   simp [execOp,X,oZ,hcn,eqGuard,binOp,h3]
  refine⟨fun c h=>(by cases h),?_⟩
  rw [hrun]
  exact k true (fun _=>hy0) _ _ S (st.step (jS _ _ _) st.sat hd (jc.2 rfl))
 |some b=>
  obtain⟨ad,hv⟩: ∃ad,oZ r.sz (some b) cap lo.toNat ys.length= .slice (some ad) ys.length (cap-lo.toNat):=⟨_,rfl⟩
  have h3:(Op.equal t (.slice (some ad) ys.length (cap-lo.toNat)) (.slice none 0 0)).run E.P w= .ok false w:=yX fun aR=>by
   simp [Op.equalIn,j3 D]
  have hrun:(execOp a.eval ⟨some aR,.binOp .eql t x (.const (.slice none 0 0)) yt,ty,pos,after,none⟩).run E.P w= .ok (.value (.bool false)) w:=by
   simp [execOp,X,hv,hcn,eqGuard,binOp,h3]
  refine⟨fun c h=>(by cases h),?_⟩
  rw [hrun]
  exact k false (fun e=>(by cases e)) _ _ S (st.step (jS _ _ _) st.sat hd (jc.2 rfl))
def MD{t' :TypeId}{l l2:Option Nat}{cap2:Nat}{zs us:List α}{x y:Operand}(ti:TI E.P T sz bytes agg z)(hsz:r.sz=sz)(hz:Nat.beq z.length sz=true)(h0:Nat.blt 0 sz=true)(h128:Nat.ble bytes 2048=true)(D:E.P.underlying t=some (.slice T))(ht' :t' =t)(hd:Nat.blt aR E.N.n=true)(V:aY E.N G x (M (ay l cap n)))(hm:nd mm r U l2 cap2 us∈db r T l cap xs::O)(hs:eX us lo (us.length:Int)=some ys)(hy:aY E.N G y (M (oZ r.sz l2 cap2 lo.toNat ys.length)))(happ:app xs ys=some zs)(k: ∀l' cap',RG E ops aK rest (db r T l' cap' zs::O) ((aR,M (ay l' cap' zs.length))::G))(hn:n=xs.length:=by rfl):
  RG E ops aK (⟨some aR,.call ⟨.builtin .append,#[x,y],#[t,t']⟩,ty,pos,after,none⟩::rest) (db r T l cap xs::O) G:=by
 subst ht'
 exact xm (u:=fun cap' l' =>M (ay l' cap' zs.length)) ti hsz hz h0 h128 D hd V (fun a w S st=>by
  have X:a.eval y=oZ r.sz l2 cap2 lo.toNat ys.length:=hy S a st.facts
  rw [X]
  exact Jv D (st.own.mem _ hm).1 hs) happ (fun _ _ _ _ _=>rfl) k hn
end

section
variable{c:Code}{args:α->List Ty}{it:It α}{fp:Nat->Prop}
end

section
variable{ty:TypeId}
end


def sj(l:List (Option Nat×Nat)):OI:={h:=fun n=>l.getD n (none,0)}
def fI(P:Program){A h1 ρ:Type}(args:A->List Ty)(Ob:h1->OI->List OE)(res:ρ->Ty)(f:h1->A->Option (ρ×h1)):Ty where
 p:=fun S v=> ∀x y R,f x y=some R-> ∃fid fst cap,v= .func (.func fid) fst cap/\ah P fid=true/\ ∀i w S' vs,SH.le S S' ->nm w S' ->xH S' (args y) vs->fe 0 uX w S' (Ob x i)->
  Calls P fid (fst++vs.toArray++cap) w fun en w' => ∃j v S'',en= .returned v/\(res R.1).p S'' v/\la (Ha (Ob x i)) w S' w' S'' /\nm w' S'' /\fe 0 uX w' S'' (Ob R.2 j)/\ ∀k,Ha (Ob R.2 j) k->Ha (Ob x i) k\/w.heap.size<=k
 mono:=fun h k x y R hf=>by
  obtain⟨fid,fst,cap,e,hc,hs⟩:=k x y R hf
  exact⟨fid,fst,cap,e,hc,fun i w S' vs hle=>hs i w S' vs (SH.le_trans h hle)⟩
variable{Ob:h1->OI->List OE}
def Gx:(fI P args Ob res (fun _ _=>none)).p S v:=fun _ _ _ h=>by cases h
variable{ats:Array TypeId}{fid:FuncId}{fn:Func}
section
section
variable{ty:TypeId}
def rQ(hc:ah E.P fid=true)(hp:aY E.N G p (M (Z b 0)))(hs: ∀x y R,f x y=some R-> ∀i,bK E.P fid (M (Z b 0)::args y) (Ob x i) (fun _:OI=>res R.1) (fun j=>Ob R.2 j)):
  cI E O G ⟨dst,.makeFunc (.func fid) #[p] #[],ty,pos,after,g⟩ (fI E.P args Ob res f):= .of_pure fun a w S _ _ hf=>by
 have X:a.eval p=Z b 0:=hp S a hf
 refine⟨.func (.func fid) #[Z b 0] #[],by simp [execOp,Instr.makeFunc,X],fun x y R hR=>⟨fid,#[Z b 0],#[],rfl,hc,fun i w' S' vs _ hsat hv ho=>?_⟩⟩
 have:=hs x y R hR i w' S' (Z b 0::vs) hsat ⟨rfl,hv⟩ ho
 rw [show(#[Z b 0]++vs.toArray++ #[]:Array Value)=(Z b 0::vs).toArray from by simp]
 exact this
def pP(hc:ah E.P fid=true)(hs: ∀x y R,f x y=some R-> ∀i,bK E.P fid (args y) (Ob x i) (fun _:OI=>res R.1) (fun j=>Ob R.2 j)):
  aY E.N G (.func fid) (fI E.P args Ob res f):=fun S a _ x y R hR=>
 ⟨fid,#[],#[],rfl,hc,fun i w' S' vs _ hsat hv ho=>by
  rw [show(#[]++vs.toArray++ #[]:Array Value)=vs.toArray from by simp]
  exact hs x y R hR i w' S' vs hsat hv ho⟩
end
def BM{x:h1}{y:A}{R:ρ×h1}{i:OI}{ty:TypeId}{fo:Operand}{xs:List Operand}(Or:List OE)(hO:O=Ob x i++Or)(hf:aY E.N G fo (fI E.P args Ob res f))(hR:f x y=some R)(V:lv E.N G xs (args y))(hpost: ∀j,Ob R.2 j++Or=post j):
  EffOK E O G ⟨some aR,.call ⟨.value fo,xs.toArray,ats⟩,ty,pos,after,g⟩ post (fun _=>res R.1):=fun a w S hsat ho hF H=>by
 subst hO
 obtain rfl:(fun j=>Ob R.2 j++Or)=post:=funext hpost
 obtain⟨fid,fst,cap,e,hc,hs⟩:=hf S a hF x y R hR
 have hr:(execOp a.eval ⟨some aR,.call ⟨.value fo,xs.toArray,ats⟩,ty,pos,after,g⟩).run E.P w= .ok (.enter fid (fst++(xs.map a.eval).toArray++cap)) w:=by
  simp [execOp,resolve,e,Deferred.ofValue,invoke,jf hc]
 refine⟨fun c h=>(by cases h),?_⟩
 rw [hr]
 exact(hs i w S _ (SH.le_refl _) hsat (V.tys hF) (ru ho).1.weak).mono fun en w' ⟨j,v,S',he,hv,X,K,h3,h4⟩=>⟨_,he,v,S',j,rfl,X.more fun b ⟨f,hf,H⟩=>⟨f,DO _ hf,H⟩,K,fe.turn ho H X h3 h4,hv⟩
section
variable{N:Nat}{w0:World}{S0:SH}{O1:List OE}{ι:Type}{t:ι->Ty}{O2:ι->List OE}
def wC{rvs:List ResultVar}(hr:fn.results=rvs.toArray)(X:Nat.beq rvs.length 1=false)(h:PE P ⟨N,[]⟩ G rvs ts)(i:ι)(hO:O=O2 i)(D:t i=tT ts):
  AT ⟨P,⟨N,[]⟩,Ha O1,w0,S0,none⟩ (bodyPost P fn (Mq ⟨P,⟨N,[]⟩,Ha O1,w0,S0,none⟩ O1 t O2)) .ret O G:=fun a w S st=>by
 obtain⟨vs,k1,k2,k3⟩:=h.run st.sat st.facts
 have hne: ¬vs.length=1:=by rw [k3];intro e;rw [e]at X;cases X
 refine⟨st.facts.defers,.tuple vs.toArray,?_,BL st rfl i hO (by rw [D];exact⟨vs,rfl,k2⟩)⟩
 have e1:(fn.results.mapM (Ad a.tmps)).run P w= .ok vs.toArray w:=by
  rw [hr,List.mapM_toArray,Sem.run_map,k1]
  rfl
 have e3:results fn a.tmps=((fn.results.mapM (Ad a.tmps))>>=fun vs=>pure (if h:vs.size=1 then vs[0]else .tuple vs)):=rfl
 rw [e3,uU,e1]
 simp [Result.andThen,hne]
def fV{k:Nat}{x:α}(hr:fn.results= #[.cell k T])(ti:TI P T sz bytes agg z)(hsz:r.sz=sz)(hag:r.agg=agg)(hk:cC G k=some (ck r x))(i:ι)(hO:O=O2 i)(D:t i=tD r x):
  AT ⟨P,⟨N,[]⟩,Ha O1,w0,S0,none⟩ (bodyPost P fn (Mq ⟨P,⟨N,[]⟩,Ha O1,w0,S0,none⟩ O1 t O2)) .ret O G:=fun a w S st=>by
 obtain⟨b,off,c,U,fr,X,K,h3⟩:=st.facts.at_ k _ hk
 obtain⟨c',h4,h5⟩:=st.sat.part K (r.len h3)
 rw [<-h5]at h3
 refine⟨st.facts.defers,r.val ((c'.toList.drop off).take r.sz),?_,BL st rfl i hO (by rw [D];exact⟨_,rfl,h3⟩)⟩
 have hl:=ko ti h4 hsz hag h3
 have h1' :a.tmps[k]?.getD undef=Value.pointer (some ⟨b,off,none⟩):=by simpa [HA] using X
 simp [results,hr,h1',asAddr,hl]
end
end
variable{et kt:TypeId}{kv:κ->Value}{os:List (Option Nat×Nat)}
section
variable [DecidableEq κ]{k:κ}{x i v:Operand}{dst:Option Nat}{ty:TypeId}
def kT{γ:β->Ty}{y:β}(hm:E.P.underlying t=some (.map kt et))(hk:KU E.P kt kv)(V:aY E.N G x (M (vO b)))(hi:Od E.N G i (kv k))(hv:aY E.N G v (γ y))
  (h: ∀os',RG E ops aK rest (Bm (Nj γ) kv b none os' (hX m k y)::O) G):
  RG E ops aK (⟨none,.insert t x i v,ty,pos,after,none⟩::rest) (Bm (Nj γ) kv b none os m::O) G:= .of rfl fun a w S st=>by
 have X:a.eval x=vO b:=V S a st.facts
 have K:a.eval i=kv k:=hi S a st.facts
 have h3:(γ y).p S (a.eval v):=hv S a st.facts
 obtain⟨⟨hp,hfp⟩,hap,hO⟩:=st.own
 obtain⟨hno,hnb,es,clock,e3,e4,hst⟩:=hp
 obtain⟨q,hq,hdk,hinj⟩:=hk
 obtain⟨os1,p1,p2,_⟩:=xe hdk hinj (k:=k) 0 e4
 have hnb1: ∀o∈os1,o.1≠some b:=fun o ho=>by
  rcases p1 o ho with h|h
  ·exact hnb o h
  ·rw [h];exact fun e=>by cases e
 obtain⟨w',os',r,x1,x2,x3,x4⟩:=O9 (hx:=Nj γ) (E:=E) (y:=y) (o:=(none,0)) (val:=a.eval v) st.sat hm ⟨q,hq,hdk,hinj⟩ ⟨hno,hnb1,es,clock,e3,p2,hst⟩ ⟨rfl,h3⟩ (fun e=>by cases e) (fun _ _ _ e=>by cases e)
 have hrun:(execOp a.eval ⟨none,.insert t x i v,ty,pos,after,none⟩).run E.P w= .ok .skip w' :=by simp [execOp,X,K,r]
 refine⟨fun c h=>(by cases h),?_⟩
 rw [hrun]
 have hfp' : ∀j,(Bm (Nj γ) kv b none os' (hX m k y)).fp j->(Bm (Nj γ) kv b none os m).fp j:=fun j hj=>by
  rcases x4 j hj with(h|⟨o,ho,e⟩)|e
  ·exact .inl h
  ·rcases p1 o ho with h|h
   ·exact .inr ⟨o,h,e⟩
   ·rw [h]at e;cases e
  ·cases e
 exact h os' _ _ S ⟨st.ext.step x1 (fun c hc=>hfp c (.inl hc)),x2,⟨⟨x3,fun j hj=>hfp j (hfp' j hj)⟩,fun f hf j hj=>hap f hf j (hfp' j hj),hO.ext x1 fun f hf j hj hjb=>hap f hf j (.inl hjb) hj⟩,st.facts⟩
end

def Hg{κ β:Type}(γ:β->Ty)(kv:κ->Value)(S:SH):List MapEntry->List (κ×β)->Prop
 |[],[]=>True
 |e::es,q::m=>e.key=kv q.1/\(γ q.2).p S e.val/\(∀p∈m,p.1≠q.1)/\Hg γ kv S es m
 |_,_=>False
def AA{κ β:Type}{γ:β->Ty}{kv:κ->Value}{S S' :SH}(h:SH.le S S'): ∀{es:List MapEntry} {m:List (κ×β)},Hg γ kv S es m->Hg γ kv S' es m
 |[],[],_=>trivial
 |_::_,q::_,⟨X,K,h3,h4⟩=>⟨X,(γ q.2).mono h K,h3,AA h h4⟩
def R6{κ β:Type} [DecidableEq κ]{γ:β->Ty}{kv:κ->Value}{w:World}{S:SH}: ∀{es:List MapEntry} {os:List (Option Nat×Nat)} {m:List (κ×β)},xF (Nj γ) kv w S none es os m->Hg γ kv S es m
 |[],[],[],_=>trivial
 |_::_,_::_,_::_,⟨X,K,_,h4,h5⟩=>⟨X,by rw [bk (by simp)]at K;exact K.2,h4,R6 h5⟩
def SG{κ β:Type} [DecidableEq κ]{γ:β->Ty}{kv:κ->Value}{w:World}{S:SH}: ∀{es:List MapEntry} {m:List (κ×β)},Hg γ kv S es m->xF (Nj γ) kv w S none es (m.map fun _=>(none,0)) m
 |[],[],_=>trivial
 |_::_,_::_,⟨X,K,h3,h4⟩=>⟨X,by rw [bk (by simp)];exact⟨rfl,K⟩,fun _ _ _ h=>(by cases h),h3,SG h4⟩
def Zm{κ β:Type}(γ:β->Ty)(kv:κ->Value)(m:List (κ×β)):Ty where
 p:=fun S v=> ∃b es clock,v=vO b/\S b=some (.map es clock)/\Hg γ kv S es.toList m
 mono:=fun h ⟨b,es,cl,e,X,K⟩=>by
  obtain⟨o',h3,h4⟩:=h b _ X
  have h5:o' = .map es cl:=h4
  subst h5
  exact⟨b,es,cl,e,h3,AA h K⟩
section
variable{c:Code} [DecidableEq κ]{k:κ}{x i:Operand}{γ:β->Ty}{dst:Option Nat}{ty:TypeId}
def J5{z:β}{zv:Value}(hm:E.P.underlying t=some (.map kt et))(hk:KU E.P kt kv)(hz:ZV E.P et zv)(hzt: ∀S,(γ z).p S zv)(V:aY E.N G x (Zm γ kv m))(hi:Od E.N G i (kv k)):
  cI E O G ⟨dst,.lookup t x i false,ty,pos,after,g⟩ (γ ((uY m k).getD z)):= .of_pure fun a w S hs ho hf=>by
 obtain⟨b,es,clock,X,h3,h4⟩:=V S a hf
 obtain⟨o',h5,h6⟩:=hs b _ h3
 have h7:o' = .map es clock:=h6
 subst h7
 obtain⟨q,hq,hd,hinj⟩:=hk
 have K:a.eval i=kv k:=hi S a hf
 obtain⟨_,_,_,h8⟩:=xe hd hinj (k:=k) 0 (SG (w:=w) h4)
 rcases h8 with⟨g1,g2⟩|⟨y,o,e,j,g1,g2,g3,g4,g5⟩
 ·refine⟨zv,by simp [execOp,X,K,sU hm hq (hd k) h5 hz g2],by rw [g1];exact hzt S⟩
 ·refine⟨e.val,by simp [execOp,X,K,sU hm hq (hd k) h5 hz g4],by rw [g1];exact g3.2⟩
def St.settleMp{j:Nat}(h:St E (Bm (Nj γ) kv b none os m::O) G a w S)(hk:cC G j=some (M (vO b))): ∃S',St E O ((j,Zm γ kv m)::G) a w S' :=by
 obtain⟨⟨hn,_,es,clock,h3,h4,_⟩,_⟩:=h.own.1
 obtain⟨h8,hle,_,_⟩:=Ac h (.inl rfl) h3 (uA _) hn
 have hv:a.tmps.getD j undef=vO b:=h.facts.at_ j _ hk
 exact⟨_,h8.cons ⟨b,es,clock,hv,by simp [SH.set],AA hle (R6 h4)⟩⟩
def KW{e:Exit}(j:Nat)(hk:cC G j=some (M (vO b)))(h:AT E aK e O ((j,Zm γ kv m)::G)):AT E aK e (Bm (Nj γ) kv b none os m::O) G:=
 fun a w _ st=>let⟨S',st'⟩:=st.settleMp hk;h a w S' st'
end

section
variable{ty:TypeId}
end
open Go.MapKept (Stamped)
section
variable [DecidableEq κ]
end
section
variable{c:Code} [DecidableEq κ]{r:Nat}{left:List κ}{cur:Option κ}{k:κ}{x i v:Operand}{dst:Option Nat}{ty:TypeId}
end
open Go.RowKit

def sf(xs:List Int):N1:=xs.map fun n=>UInt8.ofNat n.toNat
def EV: ∀(xs:List Int) (r:ByteArray),xs.foldl (fun r n=>r.push (UInt8.ofNat n.toNat)) r=⟨r.data++(sf xs).toArray⟩
 |[],r=>by simp [sf]
 |x::xs,r=>by
  rw [List.foldl_cons,EV xs]
  simp [sf,ByteArray.push]
def A8{k:IntKind}{S:SH}: ∀{xs:List Int} {cs:List Value},sh (rI k) S cs xs->cs=xs.map (Value.int k)
 |[],cs,h=>by rw [show cs=[]from h];rfl
 |x::xs,cs,⟨a,b,e,X,K⟩=>by
  rw [e,show a=[.int k x]from X,A8 K]
  rfl
section
variable{c:Code}{ty:TypeId}
def Ci{xs:List Int}{x:Operand}{dt:TypeId}(hs:E.P.underlying st=some (.slice e))(he:E.P.underlying e=some (.int .u8))(hd:E.P.underlying dt=some .string)(ti:TI E.P e sz bytes agg z)(hsz:Nat.beq sz 1=true)(V:aY E.N G x (tD (f6 (rI .u8)) xs)):cI E O G ⟨dst,.convert st dt x,ty,pos,after,g⟩ (tD rS (sf xs)):= .of_pure fun a w S hsat _ hf=>by
 obtain⟨ad,cap,hv,hle,hmax,hsl⟩:=mf.1 (V S a hf)
 refine⟨.string ⟨(sf xs).toArray⟩,?_,B9.2 rfl⟩
 have key: ∀(ad:Option Addr),GC (rI .u8) S ad xs->(ad=none->xs=[])->(Conv.bytesToString (.slice ad xs.length cap)).run E.P w= .ok (.string ⟨(sf xs).toArray⟩) w:=fun ad h h0=>by
  cases ad with
  |none=>rw [h0 rfl];rfl
  |some p=>
   have hl:(loadCells p xs.length).run E.P w= .ok (xs.map (Value.int .u8)).toArray w:=by
    rcases h with h|⟨b,off,cc,T,fr,X,K,h3⟩
    ·rw [h];rfl
    ·cases X
     obtain⟨c',h4,h5⟩:=hsat.part K (ll h3)
     have h6:xs.length*(rI .u8).sz=xs.length:=by show xs.length*1=_;omega
     rw [h6]at h3 h5
     have h7:=A8 h3
     exact wb h4 (h5.trans h7) (by simp)
   rw [run_bytesToString w p xs.length cap xs hl,EV]
   simp [ByteArray.empty,ByteArray.emptyWithCapacity]
   rfl
 simp [execOp,hv,run_convert_bytes_string w st dt e _ _ _ hs he hd,key ad hsl (fun h=>by
  rcases hsl with X|⟨b,off,cc,T,fr,X,_⟩
  ·exact X
  ·rw [h]at X;cases X)]
end

abbrev NG:=Nat->(Option Nat×Nat)×(Nat->Option Nat×Nat)
inductive NPl where
 |o
 |i (k:Nat)
 |l (k j:Nat)
section
def hd2(q:Nat->Option Nat×Nat)(zs:List (List α)):List Value:=zs.mapIdx fun j z=>ay (q j).1 (q j).2 z.length
def hd1(prj:β->List (List α))(g:NG)(x:List β):List Value:=x.mapIdx fun k y=>ay (g k).1.1 (g k).1.2 (prj y).length
def nsB(prj:β->List (List α))(l:Option Nat)(g:NG)(x:List β)(h:Option (Nat×Nat)):NPl->Option Nat
 | .o=>l
 | .i k=>(x[k]?).bind fun _=>(g k).1.1
 | .l k j=>if h=some (k,j)then none else((x[k]?).bind fun y=>(prj y)[j]?).bind fun _=>((g k).2 j).1
structure nstP(prj:β->List (List α))(r:Rp α)(T1 T2 T3:TypeId)(l:Option Nat)(cap n:Nat)(g:NG)(x:List β)(h:Option (Nat×Nat))(w:World)(S:SH):Prop where
 len:x.length=n
 out:AE false rV T1 l cap (hd1 prj g x) w S
 inn: ∀k y,x[k]? =some y->AE false rV T2 (g k).1.1 (g k).1.2 (hd2 (g k).2 (prj y)) w S
 lvs: ∀k y j z,x[k]? =some y->(prj y)[j]? =some z->h≠some (k,j)->AE true r T3 ((g k).2 j).1 ((g k).2 j).2 z w S
 inj: ∀ac t b,nsB prj l g x h ac=some b->nsB prj l g x h t=some b->ac=t
variable{prj:β->List (List α)}{T1 T2 T3:TypeId}{l:Option Nat}{g:NG}{x:List β}{h:Option (Nat×Nat)}
end
section
variable{prj:β->List (List α)}{T1 T2 T3:TypeId}{l:Option Nat}{g:NG}{x:List β}{h:Option (Nat×Nat)}
variable{c:Code}{ty:TypeId}{gd:Option (Nat×Bool)}
open Classical in
noncomputable def abS(w:World)(S:SH)(P:Nat->Prop):SH:=fun b=>if P b then w.heap[b]? else S b
def g0(hs:List (Option Nat×Nat)):NG:=fun k=>(hs.getD k (none,0),fun _=>(none,0))
def tsB(l:Option Nat)(q:Nat->Option Nat×Nat)(zs:List (List α))(h:Option Nat):Option Nat->Option Nat
 |none=>l
 |some j=>if h=some j then none else(zs[j]?).bind fun _=>(q j).1
structure rowP(r:Rp α)(T2 T3:TypeId)(l:Option Nat)(cap n:Nat)(q:Nat->Option Nat×Nat)(zs:List (List α))(h:Option Nat)(w:World)(S:SH):Prop where
 len:zs.length=n
 inn:AE false rV T2 l cap (hd2 q zs) w S
 lvs: ∀j z,zs[j]? =some z->h≠some j->AE true r T3 (q j).1 (q j).2 z w S
 inj: ∀ac t b,tsB l q zs h ac=some b->tsB l q zs h t=some b->ac=t
variable{q:Nat->Option Nat×Nat}{zs:List (List α)}{k:Option Nat}
end

def F9(es:List Bool)(done:Array Bool):List Nat:=(List.range es.length).filter fun k=>(es[k]?).getD false&&done.getD k false
def TP(es:List Bool)(i:Nat)(ac:List Nat):List Nat:=(List.range es.length).filter fun k=>Nat.beq k i||ac.contains k
def Yk:List Nat->List Nat->Bool
 |[],[]=>true
 |a::ac,b::t=>Nat.beq a b&&Yk ac t
 |_,_=>false
def Mp: ∀{ac t:List Nat},Yk ac t=true->ac=t
 |[],[],_=>rfl
 |a::ac,b::t,h=>by
  simp only [Yk,pt]at h
  rw [qy h.1,Mp h.2]
 |[],_::_,h=>by cases h
 |_::_,[],h=>by cases h
def PW:List (List Nat×((Nat->OI)->List OE))->List Nat->(Nat->OI)->List OE
 |[],_,_=>[]
 |p::r,ac,σ=>bif Yk p.1 ac then p.2 σ else PW r ac σ
def Bl{k:Nat}:k∈F9 es done↔es[k]? =some true/\done.getD k false=true:=by
 unfold F9
 rw [List.mem_filter,List.mem_range,pt]
 constructor
 ·rintro⟨X,K,h3⟩
  refine⟨?_,h3⟩
  rw [lI X]at K ⊢
  simpa using K
 ·rintro⟨X,K⟩
  exact⟨(tp.1 X).1,by rw [X];rfl,K⟩
def Pw{i:Nat}(h:es[i]? =some false):F9 es (done.setIfInBounds i true)=F9 es done:=by
 unfold F9
 refine List.filter_congr fun k hk=>?_
 by_cases hik:i=k
 ·subst hik;rw [h];rfl
 ·rw [xn false hik]
def U6{i:Nat}(h:es[i]? =some true)(hs:i<done.size):F9 es (done.setIfInBounds i true)=TP es i (F9 es done):=by
 unfold TP
 conv=>lhs;unfold F9
 refine List.filter_congr fun k hk=>?_
 by_cases hik:i=k
 ·subst hik;simp [h,hs]
 ·rw [xn false hik]
  have H:Nat.beq k i=false:=by
   cases H:Nat.beq k i with
   |false=>rfl
   |true=>exact absurd (qy H).symm hik
  rw [H,vE,AJ,I5,Bl,pt]
  constructor
  ·rintro⟨X,K⟩
   refine⟨?_,K⟩
   cases he:es[k]? with
   |none=>rw [he]at X;cases X
   |some b=>rw [he]at X;simpa using X
  ·rintro⟨X,K⟩
   exact⟨by rw [X];rfl,K⟩
def GA:List Nat->List (List Nat)
 |[]=>[[]]
 |k::l=>(GA l).map (k:: ·)++GA l
def Dm(es:List Bool):List Nat:=(List.range es.length).filter fun k=>(es[k]?).getD false
def yB(p:Nat->Bool): ∀l:List Nat,l.filter p∈GA l
 |[]=>zW.2 rfl
 |k::l=>by
  unfold GA
  rw [uW]
  by_cases h:p k=true
  ·rw [List.filter_cons_of_pos h]
   exact .inl (AS.2 ⟨_,yB p l,rfl⟩)
  ·rw [List.filter_cons_of_neg h]
   exact .inr (yB p l)
def Sb(es:List Bool)(done:Array Bool):F9 es done∈GA (Dm es):=by
 have:F9 es done=(Dm es).filter fun k=>done.getD k false:=by
  unfold F9 Dm
  rw [List.filter_filter]
  refine List.filter_congr fun k _=>Bool.and_comm ..
 rw [this]
 exact yB _ _
def noE(L:List Oper)(es:List Bool)(i:Nat)(ac:List Nat):Bool:=
 ac.contains i||(Dm es).any fun k=>if ac.contains k then pg L L.length k i||(Dm es).any fun j=> !ac.contains j&&pg L L.length k j else pg L L.length i k
def Oo(L:List Oper)(es:List Bool)(i:Nat)(aas:List (List Nat)):Bool:=(GA (Dm es)).all fun ac=>noE L es i ac||aas.any fun a=>Yk a ac
def KV{α:Type}(p:α->Prop):List α->Prop
 |[]=>True
 |a::l=>p a/\KV p l
def KV.mem{p:α->Prop}: ∀{l:List α},KV p l-> ∀a∈l,p a
 |_::_,⟨h,_⟩,_,.head _=>h
 |_::_,⟨_,h⟩,_,.tail _ hm=>KV.mem h _ hm
abbrev YM:=List (List Nat×((Nat->OI)->List OE))
def DT(E:En)(G:mV)(L:List Oper)(ts:List TS)(Ss:YM)(es0:List Bool):Nat->List Oper->List Bool->Prop
 |_,[],_=>True
 |i,o::rest,false::es=>(∃(needs:List NS) (t:TS) (aas:List (List Nat)),ts[i]? =some t/\xz G ts needs/\(needs.all fun n=>qA L o i (n.at fun _=>ml))=true/\fv i o=true/\Px L es0 i t=true/\Oo L es0 i aas=true/\o.dst.isSome=true/\
   KV (fun ac=> ∀σ,cw E (PW Ss ac σ) L.toArray (xw needs σ) o (t.at σ)) aas)/\DT E G L ts Ss es0 (i+1) rest es
 |i,o::rest,true::es=>(∃(needs:List NS) (t:TS) (aas:List (List Nat×List Nat)),ts[i]? =some t/\xz G ts needs/\(needs.all fun n=>qA L o i (n.at fun _=>ml))=true/\fv i o=true/\Px L es0 i t=true/\Oo L es0 i (aas.map (·.1))=true/\(aas.all fun p=>Yk (TP es0 i p.1) p.2)=true/\
   KV (fun p:List Nat×List Nat=> ∀σ,ne E L.toArray (PW Ss p.1 σ) (xw needs σ) o (fun x=>PW Ss p.2 (Ot σ i x)) (fun x=>t.at (Ot σ i x))) aas)/\DT E G L ts Ss es0 (i+1) rest es
 |_,_::_,[]=>False
def DT.get{ts:List TS}{Ss:YM}{es0:List Bool}: ∀(r:List Oper) (es:List Bool) (k:Nat),DT E G L ts Ss es0 k r es-> ∀(j:Nat) (o:Oper),r[j]? =some o->
    ∃e,es[j]? =some e/\ ∃(needs:List NS) (t:TS),ts[k+j]? =some t/\xz G ts needs/\(needs.all fun n=>qA L o (k+j) (n.at fun _=>ml))=true/\fv (k+j) o=true/\Px L es0 (k+j) t=true/\
      (match e with
       |false=>o.dst.isSome=true/\ ∃aas,Oo L es0 (k+j) aas=true/\KV (fun ac=> ∀σ,cw E (PW Ss ac σ) L.toArray (xw needs σ) o (t.at σ)) aas
       |true=> ∃aas:List (List Nat×List Nat),Oo L es0 (k+j) (aas.map (·.1))=true/\(aas.all fun p=>Yk (TP es0 (k+j) p.1) p.2)=true/\KV (fun p:List Nat×List Nat=> ∀σ,ne E L.toArray (PW Ss p.1 σ) (xw needs σ) o (fun x=>PW Ss p.2 (Ot σ (k+j) x)) (fun x=>t.at (Ot σ (k+j) x))) aas):=by
  intro r
  induction r with
  |nil=>intro es k _ j o h;simp at h
  |cons p r ih=>
    intro es k h j o ho
    cases es with
    |nil=>exact h.elim
    |cons e es=>
      cases e with
      |false=>
        obtain⟨⟨needs,t,aas,g1,g2,g3,g4,g5,g6,g7,g8⟩,K⟩:=h
        cases j with
        |zero=>
          simp at ho;subst ho
          exact⟨false,rfl,needs,t,g1,g2,g3,g4,g5,g7,aas,g6,g8⟩
        |succ j=>
          obtain⟨e',g1,g2⟩:=ih es (k+1) K j o (by simpa using ho)
          refine⟨e',by simpa using g1,?_⟩
          rw [show k+1+j=k+(j+1)from by omega]at g2
          exact g2
      |true=>
        obtain⟨⟨needs,t,aas,g1,g2,g3,g4,g5,g6,g7,g8⟩,K⟩:=h
        cases j with
        |zero=>
          simp at ho;subst ho
          exact⟨true,rfl,needs,t,g1,g2,g3,g4,g5,aas,g6,g7,g8⟩
        |succ j=>
          obtain⟨e',g1,g2⟩:=ih es (k+1) K j o (by simpa using ho)
          refine⟨e',by simpa using g1,?_⟩
          rw [show k+1+j=k+(j+1)from by omega]at g2
          exact g2
structure V7(E:En)(G:mV)(l:List Oper)(ts:List TS)(Ss:YM)(es:List Bool)(done:Array Bool)(a:Act)(w:World)(S:SH)(σ:Nat->OI):Prop where
 ext:la E.B E.w0 E.S0 w S
 sat:nm w S
 own:fe E.base E.B w S (PW Ss (F9 es done) σ)
 size:a.tmps.size=E.N.n
 defers:a.defers=E.N.ds
 dsz:done.size=l.length
 down: ∀j o,l[j]? =some o->done.getD j false=true-> ∀e∈o.after,Region.binds .any e=true->done.getD e.on false=true
 old: ∀k t,cC G k=some t->(∀j o,l[j]? =some o->done.getD j false=true->o.dst≠some k)->t.p S (a.tmps.getD k undef)
 new: ∀j o aR p,l[j]? =some o->done.getD j false=true->o.dst=some aR->ts[j]? =some p->(p.at σ).p S (a.tmps.getD aR undef)
 deps: ∀j p,done.getD j false=true->ts[j]? =some p-> ∀k∈p.1,done.getD k false=true
section
variable{ts:List TS}{Ss:YM}
def V7.need(h:V7 E G L ts Ss es done a w S σ){i:Nat}(hi:L[i]? =some o)(hun:done.getD i true=false)(hwait: ∀e∈o.after,Region.binds .any e=true->done.getD e.on false=true){needs:List NS}(X:xz G ts needs)(K:(needs.all fun n=>qA L o i (n.at fun _=>ml))=true):cE E.N S a (xw needs σ):=by
 have hlt:i<done.size:=by rw [h.dsz];exact(tp.1 hi).1
 have hun' :done.getD i false=false:=by
  simp [hlt]at hun ⊢;exact hun
 refine⟨h.size,h.defers,?_⟩
 have key: ∀n∈needs,(n.ty σ).p S (a.tmps.getD n.slot undef):=by
  intro n hn
  have hs:=mo.1 K n hn
  have ho:=X.mem n hn
  unfold qA NS.at at hs
  unfold Vo at ho
  cases hsrc:n.src with
  |some j=>
   rw [hsrc]at hs ho
   simp only [pt]at hs
   obtain⟨hs1,hs2⟩:=hs
   cases hj:L[j]? with
   |none=>rw [hj]at hs1;cases hs1
   |some p=>
    rw [hj]at hs1
    cases hd:p.dst with
    |none=>simp only [hd]at hs1;cases hs1
    |some aR=>
     simp only [hd]at hs1
     have hd' :=qy hs1
     subst hd'
     have hdone:done.getD j false=true:=by
      unfold CS at hs2
      obtain⟨e,he0,H⟩:=DG.1 hs2
      have he:e∈o.after:=by simpa using he0
      simp only [pt]at H
      have:=hwait e he H.2
      rwa [qy H.1]at this
     have hm:=ho σ
     cases hf:ts[j]? with
     |none=>rw [hf]at hm;simp at hm
     |some f=>
      rw [hf]at hm
      have e:f.at σ=n.ty σ:=by simpa using hm
      rw [<-e]
      exact h.new j p n.slot f hj hdone hd hf
  |none=>
   rw [hsrc]at hs ho
   refine h.old _ _ (ho σ) fun j p hj hdone hd=>?_
   have:=mo.1 hs p (rC hj)
   simp only [hd,Nat.beq_refl,ug,vE]at this
   unfold CS at this
   obtain⟨e,he0,H⟩:=DG.1 this
   have he:e∈p.after:=by simpa using he0
   simp only [pt]at H
   have h3:=h.down j p hj hdone e he H.2
   rw [qy H.1]at h3
   rw [h3]at hun'
   cases hun'
 clear X K
 intro k t hk
 unfold xw at hk
 induction needs with
 |nil=>simp [kf,cC]at hk
 |cons n needs ih=>
  simp only [DL]at hk
  unfold kf cC at hk
  by_cases H:Nat.beq n.slot k=true
  ·have hb' :Nat.beq (n.at σ).slot k=true:=H
   rw [hb']at hk
   have:=qy H
   subst this
   have h9:some (n.at σ).ty=some t:=by simpa using hk
   have e:n.ty σ=t:=rE h9
   rw [<-e]
   exact key n (qa ..)
  ·rw [AL]at H
   have hb' :Nat.beq (n.at σ).slot k=false:=H
   rw [hb']at hk
   exact ih (fun m hm=>key m (ry _ hm)) hk
def V7.step{σ' :Nat->OI}(h:V7 E G L ts Ss es done a w S σ){i:Nat}{p0:TS}{C:Nat->Prop}(hi:L[i]? =some o)(hdN: ∀aR,o.dst=some aR->aR<E.N.n)(hs2: ∀aR,o.dst=some aR-> ∀j p,L[j]? =some p->done.getD j false=true->p.dst=some aR->i=j)(hwait: ∀e∈o.after,Region.binds .any e=true->done.getD e.on false=true)(D:ts[i]? =some p0)(hun:done.getD i true=false)(hdep: ∀k∈p0.1,k=i\/done.getD k false=true)(hext:la C w S w' S')(hC: ∀b,C b->E.base<=b\/E.B b)(hsat:nm w' S')(hown:fe E.base E.B w' S' (PW Ss (F9 es (done.setIfInBounds i true)) σ'))(hσ: ∀k,k≠i->σ' k=σ k)(hv:(p0.at σ').p S' v):
  V7 E G L ts Ss es (done.setIfInBounds i true) (a.put o.dst v) w' S' σ' :=by
 have hlt:i<done.size:=by rw [h.dsz];exact(tp.1 hi).1
 have hset: ∀j,(done.setIfInBounds i true).getD j false=true->j=i\/done.getD j false=true:=fun j hj=>by
  by_cases hij:i=j
  ·exact .inl hij.symm
  ·rw [xn false hij]at hj;exact .inr hj
 have hseti:(done.setIfInBounds i true).getD i false=true:=by simp [hlt]
 have hun' :done.getD i false=false:=by simp [hlt]at hun ⊢;exact hun
 have hput: ∀k,(∀aR,o.dst=some aR->aR≠k)->(a.put o.dst v).tmps.getD k undef=a.tmps.getD k undef:=fun k hk=>by
  cases hd:o.dst with
  |none=>rfl
  |some aR=>
   have hda:aR<a.tmps.size:=by rw [h.size];exact hdN aR hd
   rw [vj hda,bk (hk aR hd)]
 refine⟨h.ext.step hext hC,hsat,hown,?_,?_,by simp [h.dsz],fun j p hj hdone e he H=>?_,fun k u hk hno=>?_,fun j p d' u hj hdone hd' hu=>?_,fun j u hj hu k hk=>?_⟩
 ·cases o.dst with
  |none=>exact h.size
  |some aR=>simp [Act.put,h.size]
 ·cases o.dst with
  |none=>exact h.defers
  |some aR=>exact h.defers
 ·rcases hset j hdone with rfl|hj'
  ·rw [hi]at hj
   have:o=p:=by simpa using hj
   subst this
   exact zq (hwait e he H)
  ·exact zq (h.down j p hj hj' e he H)
 ·rw [hput k fun aR hd e=>hno i o hi hseti (by rw [hd,e])]
  exact u.mono hext.keep (h.old k u hk fun j p hj hdone=>hno j p hj (zq hdone))
 ·by_cases hij:j=i
  ·subst hij
   rw [hi]at hj
   have:o=p:=by simpa using hj
   subst this
   have hda:d' <a.tmps.size:=by rw [h.size];exact hdN d' hd'
   rw [hd',vj hda,bJ rfl]
   rw [D]at hu
   have:p0=u:=by simpa using hu
   subst this
   exact hv
  ·have hj' :=(hset j hdone).resolve_left hij
   rw [hput d' fun aR hd e=>by subst e;exact hij (hs2 aR hd j p hj hj' hd').symm]
   have e1:u.at σ' =u.at σ:=congrArg u.2 (Gi fun k hk=>hσ k fun e=>by
     subst e
     rw [h.deps j u hj' hu k hk]at hun';cases hun')
   rw [e1]
   exact Ty.mono _ hext.keep (h.new j p d' u hj hj' hd' hu)
 ·rcases hset j hj with rfl|hj'
  ·rw [D]at hu
   have:p0=u:=by simpa using hu
   subst this
   rcases hdep k hk with rfl|h'
   ·exact hseti
   ·exact zq h'
  ·exact zq (h.deps j u hj' hu k hk)
end
def Jh{l t:List Oper}{ts:List TS}{Ss:YM}(hsl:xY E.N.n [] l=true)(hlen:ts.length=l.length)(hesl:es.length=l.length)(hd:DT E G (l++t) ts Ss es 0 l es)(D:zI (l++t) l.length t.length=true)(hQ: ∀a w S σ,St E (PW Ss (Dm es) σ) (JX l (SM ts σ) G) a w S->wpListIn (fw E.r) 0 E.P (l++t).toArray aK t a w):
  ∀(fuel:Nat) (done:Array Bool) (a:Act) (w:World) (S:SH) (σ:Nat->OI),mW done=fuel->(∀j,l.length<=j->done.getD j false=false)->V7 E G (l++t) ts Ss es done a w S σ->wpAnyIn (fw E.r) 0 E.P .any (l++t).toArray aK fuel done a w:=by
 have hL1: ∀i o,i<l.length->(l++t)[i]? =some o->l[i]? =some o:=fun i o hi h=>by rwa [AP hi]at h
 have hL2: ∀i o,l[i]? =some o->(l++t)[i]? =some o:=fun i o h=>by rw [AP (tp.1 h).1];exact h
 have htail: ∀m o,l.length<=m->(l++t)[m]? =some o->xf (l++t) m=true/\fv m o=true:=fun m o hm ho=>by
  have hml:m<(l++t).length:=(tp.1 ho).1
  rw [mq]at hml
  unfold zI at D
  have:=mo.1 D (m-l.length) (by simp;omega)
  rw [show l.length+(m-l.length)=m from by omega,ho]at this
  simp only [pt]at this
  exact⟨this.1,this.2.1⟩
 have hget:=fun i o (hi:l[i]? =some o)=>DT.get l es 0 hd i o hi
 have hedge: ∀i o,(l++t)[i]? =some o->fv i o=true:=fun i o hi=>by
  rcases qb i l.length with h|h
  ·obtain⟨_,_,_,_,_,_,_,h,_⟩:=hget i o (hL1 i o h hi)
   simpa using h
  ·exact(htail i o h hi).2
 obtain⟨hs1,hs2⟩:=CV l [] hsl
 have fin: ∀fuel done a w S σ,mW done=fuel->(∀j,l.length<=j->done.getD j false=false)->V7 E G (l++t) ts Ss es done a w S σ->(∀i,i<l.length->done.getD i false=true)->wpAnyIn (fw E.r) 0 E.P .any (l++t).toArray aK fuel done a w:=by
  intro fuel done a w S σ hu hfree h hall
  have hdn:F9 es done=Dm es:=by
   unfold F9 Dm
   refine List.filter_congr fun k hk=>?_
   rw [hall k (by rw [<-hesl];exact List.mem_range.1 hk),Bool.and_true]
  have hown:=h.own
  rw [hdn]at hown
  refine z1 (n:=l.length) (fun m o hm ho=>(htail m o hm ho).1) hedge t l.length done fuel a w (eJ _) (by simp) h.dsz (fun j hj=>⟨fun hjd=>?_,fun hlt=>hall j hlt⟩) hu
   (hQ a w S σ ⟨h.ext,h.sat,hown,h.size,h.defers,fun j u hj=>?_⟩)
  ·rcases qb j l.length with h' |h'
   ·exact h'
   ·rw [hfree j h']at hjd;cases hjd
  ·rcases GZ l (SM ts σ) j u (by unfold SM;rw [Gd];exact hlen) hj with⟨i,o,X,K,h3⟩|⟨X,K⟩
   ·unfold SM at h3
    rw [List.getElem?_map]at h3
    cases hf:ts[i]? with
    |none=>rw [hf]at h3;simp at h3
    |some f=>
     rw [hf]at h3
     have e:f.at σ=u:=by simpa using h3
     rw [<-e]
     exact h.new i o j f (hL2 i o X) (hall i (tp.1 X).1) K hf
   ·refine h.old j u X fun i o ho hdn=>?_
    rcases qb i l.length with h' |h'
    ·exact K o (rC (hL1 i o h' ho))
    ·rw [hfree i h']at hdn;cases hdn
 have lower: ∀done a w S σ i,(∀j,l.length<=j->done.getD j false=false)->V7 E G (l++t) ts Ss es done a w S σ->i∈Region.ready .any (l++t).toArray done->l.length<=i-> ∀j,j<l.length->done.getD j false=true:=by
  intro done a w S σ i hfree h hi hge j hj
  obtain⟨hun,p,hp,hwait⟩:=ul.1 hi
  have hp' :(l++t)[i]? =some p:=by simpa using hp
  have hcov:=(htail i p hge hp').1
  unfold xf at hcov
  have hre:=mo.1 hcov j (by simp;omega)
  exact hZ h.down _ i j (fun q hq e he H=>by
   have:q=p:=by rw [hp']at hq;simpa using hq.symm
   subst this
   exact hwait e he H) hre
 intro fuel
 induction fuel with
 |zero=>
  intro done a w S σ hu hfree h
  exact fin 0 done a w S σ hu hfree h fun i hi=>u5 hu (by rw [h.dsz,mq];omega)
 |succ fuel ih=>
  intro done a w S σ hu hfree h
  by_cases hall: ∀i,i<l.length->done.getD i false=true
  ·exact fin _ done a w S σ hu hfree h hall
  have hready0: ∀m i,i<m->i<l.length->Region.ready .any (l++t).toArray done=[]->done.getD i false=true:=by
   intro m
   induction m with
   |zero=>intro i h;omega
   |succ m ihm=>
    intro i him hil hr
    have his:i<done.size:=by rw [h.dsz,mq];omega
    by_cases hdn:done.getD i true=true
    ·rw [<-qo his];exact hdn
    ·exfalso
     obtain⟨o,ho⟩: ∃o,(l++t)[i]? =some o:=⟨l[i],hL2 i _ (lI hil)⟩
     have hmem:i∈Region.ready .any (l++t).toArray done:=by
      rw [ul]
      refine⟨by simpa using hdn,o,by simpa using ho,fun e he H=>?_⟩
      have:=hedge i o ho
      unfold fv at this
      have:=mo.1 this e (by simpa using he)
      simp only [H,ug,vE,vD]at this
      exact ihm e.on (by omega) (by omega) hr
     rw [hr]at hmem;cases hmem
  refine⟨fun hr=>absurd (fun i hi=>hready0 (i+1) i (by omega) hi hr) hall,fun i hi=>?_⟩
  have hil:i<l.length:=by
   rcases qb i l.length with h' |h'
   ·exact h'
   ·exact absurd (lower done a w S σ i hfree h hi h') hall
  obtain⟨hun,o,ho,hwait⟩:=ul.1 hi
  have ho' :(l++t)[i]? =some o:=by simpa using ho
  have hol:=hL1 i o hil ho'
  obtain⟨e,he,needs,u,X,K,h3,_,h4,h5⟩:=hget i o hol
  rw [uT]at X h3 h4
  have hF:=h.need ho' hun hwait K h3
  have his:i<done.size:=by rw [h.dsz,mq];omega
  have hun' :done.getD i false=false:=by rw [<-qo his];exact hun
  have hu' :mW (done.setIfInBounds i true)=fuel:=by have:=sq hun;omega
  have huq: ∀aR,o.dst=some aR-> ∀j p,(l++t)[j]? =some p->done.getD j false=true->p.dst=some aR->i=j:=fun aR hdd j p hj hjd hpd=>by
   rcases qb j l.length with h' |h'
   ·exact hs2 i j o p aR hol (hL1 j p h' hj) hdd hpd
   ·rw [hfree j h']at hjd;cases hjd
  have hfree' : ∀j,l.length<=j->(done.setIfInBounds i true).getD j false=false:=fun j hj=>by
   rw [xn false (by omega)];exact hfree j hj
  have hbl:E.base<=w.heap.size:=h.ext.size
  have hwaits: ∀q,(l++t)[i]? =some q-> ∀e∈q.after,Region.binds .any e=true->done.getD e.on false=true:=fun q hq e he H=>by
   have:q=o:=by rw [ho']at hq;simpa using hq.symm
   subst this
   exact hwait e he H
  have hdpp: ∀k∈u.1,k=i\/done.getD k false=true:=fun k hk=>by
   have:=mo.1 h4 k hk
   simp only [pt,AK]at this
   rcases this.2 with H|H
   ·exact .inl (qy H)
   ·exact .inr (hZ h.down _ i k hwaits H)
  have hdNN: ∀aR,o.dst=some aR->aR<E.N.n:=fun aR hd=>(hs1 o (rC hol) aR hd).1
  unfold wpOpIn
  rw [ho]
  show if _ then _ else _
  -- just these effects stand
  have hpos:noE (l++t) es i (F9 es done)=false:=by
   rw [AX]
   intro hno
   unfold noE at hno
   rw [AK]at hno
   rcases hno with hc|hc
   ·have:=(Bl.1 (I5.1 hc)).2
    rw [this]at hun';cases hun'
   ·obtain⟨k,hk1,hk2⟩:=DG.1 hc
    have hke:es[k]? =some true:=by
     unfold Dm at hk1
     rw [List.mem_filter,List.mem_range]at hk1
     have h7:=hk1.2
     rw [lI hk1.1]at h7 ⊢
     simpa using h7
    by_cases hin:(F9 es done).contains k=true
    ·rw [bJ hin,AK]at hk2
     have hkd:=(Bl.1 (I5.1 hin)).2
     rcases hk2 with H|H
     ·have:=hZ h.down _ k i (fun q hq e he H=>h.down k q hq hkd e he H) H
      rw [this]at hun';cases hun'
     ·obtain⟨j,hj1,hj2⟩:=DG.1 H
      rw [pt,DI]at hj2
      have hje:es[j]? =some true:=by
       unfold Dm at hj1
       rw [List.mem_filter,List.mem_range]at hj1
       have h7:=hj1.2
       rw [lI hj1.1]at h7 ⊢
       simpa using h7
      have hjd:=hZ h.down _ k j (fun q hq e he H=>h.down k q hq hkd e he H) hj2.2
      have:=I5.2 (Bl.2 ⟨hje,hjd⟩)
      rw [hj2.1]at this;cases this
    ·rw [bk hin]at hk2
     have hkd:=hZ h.down _ i k hwaits hk2
     exact hin (I5.2 (Bl.2 ⟨hke,hkd⟩))
  have hwin: ∀aas:List (List Nat),Oo (l++t) es i aas=true->F9 es done∈aas:=by
   intro aas hw
   unfold Oo at hw
   have:=mo.1 hw _ (Sb es done)
   rw [hpos,vE]at this
   obtain⟨b,hb1,hb2⟩:=DG.1 this
   rw [<-Mp hb2];exact hb1
  cases e with
  |false=>
   simp only at h5
   obtain⟨hdS,aas,hw,h5⟩:=h5
   rw [uT]at hw
   obtain⟨aR,hdd⟩:=MO.1 hdS
   have h6:=h5.mem _ (hwin aas hw) σ a w S h.sat h.own hF
   have hdq:=Pw (done:=done) he
   by_cases hw:Region.wanted o (yielded (l++t).toArray a.tmps)=true
   ·rw [bJ hw]at h6 ⊢
    refine mH (fun a' w' ⟨v,S',ha,V,hs,hv⟩=>?_) h6
    subst ha
    exact ih _ _ _ S' _ hu' hfree' (h.step ho' hdNN huq hwait X hun hdpp V (fun _ H=>H.elim) hs (by rw [hdq];exact h.own.ext0 V) (fun _ _=>rfl) hv)
   ·rw [bk hw]at h6 ⊢
    exact⟨fun _ _=>trivial,ih _ _ _ S _ hu' hfree' (h.step ho' hdNN huq hwait X hun hdpp (jS uX _ _) (fun _ H=>H.elim) h.sat (by rw [hdq];exact h.own) (fun _ _=>rfl) h6)⟩
  |true=>
   simp only [uT]at h5
   obtain⟨aas,hw,hins,h5⟩:=h5
   obtain⟨p,hp1,hp2⟩:=AS.1 (hwin _ hw)
   have hp3:=Mp (mo.1 hins p hp1)
   have h6:=h5.mem p hp1 σ a w S h.sat (by rw [hp2];exact h.own) hF hbl
   have hdq:F9 es (done.setIfInBounds i true)=p.2:=by rw [U6 he his,<-hp2,hp3]
   by_cases hw:Region.wanted o (yielded (l++t).toArray a.tmps)=true
   ·rw [bJ hw]at h6 ⊢
    refine mH (fun a' w' ⟨v,S',x,ha,V,hs,hown,hv⟩=>?_) h6
    subst ha
    exact ih _ _ _ S' _ hu' hfree' (h.step ho' hdNN huq hwait X hun hdpp V (fun b ⟨f,hf,H⟩=>(fe.mem h.own f (by rw [<-hp2];exact hf)).2 b H) hs (by rw [hdq];exact hown) (fun k hk=>HF σ x hk) hv)
   ·rw [bk hw]at h6 ⊢
    obtain⟨x,hown,hv⟩:=h6
    exact⟨fun _ _=>trivial,ih _ _ _ S _ hu' hfree' (h.step ho' hdNN huq hwait X hun hdpp (jS uX _ _) (fun _ H=>H.elim) h.sat (by rw [hdq];exact hown) (fun k hk=>HF σ x hk) hv)⟩
def SI{id:Nat}(m:Nat)(ts:List TS)(es:List Bool)(Ss:YM)(hO: ∀σ,PW Ss [] σ=O)(hm:E.P.follows .mixedOrders=true)(hsl:xY E.N.n [] (L.take m)=true)(hlen:ts.length=(L.take m).length)(hesl:es.length=(L.take m).length)(D:zI L (L.take m).length (L.drop m).length=true)(hd:DT E G L ts Ss es 0 (L.take m) es)(k: ∀σ:Nat->OI,RG E L.toArray aK (L.drop m) (PW Ss (Dm es) σ) (JX (L.take m) (SM ts σ) G)):CG E aK (.region id L.toArray true) O G:=fun a w S st=>by
 have hL:L=L.take m++L.drop m:=(ui m L).symm
 generalize L.take m=l at hL hsl hlen hesl D hd k
 generalize L.drop m=t at hL D k
 subst hL
 refine wpIn_region_any hm ?_
 obtain⟨he,hs⟩:=yP (w:=w) st.sat
 have hdn0:F9 es (Array.replicate (l++t).toArray.size false)=[]:=by
  unfold F9
  refine List.filter_eq_nil_iff.2 fun k hk=>?_
  simp [zX]
  intro _
  split<;>simp
 refine Jh hsl hlen hesl hd D (fun a w S σ st=>k σ a w S st) _ _ _ _ S (fun _=>ml) ?_ (fun j _=>?_)
  ⟨st.ext.step0 he,hs,by rw [hdn0,hO];exact st.own.ext0 he,st.facts.size,st.facts.defers,by simp,fun j o hj hdone=>?_,fun k t hk _=>st.facts.at_ k t hk,fun j o aR t hj hdone=>?_,fun j p hdone=>?_⟩
 ·unfold mW;rw [MM,MK];simp
 ·simp [zX];split<;>rfl
 ·simp [zX]at hdone
  split at hdone<;>simp at hdone
 ·simp [zX]at hdone
  split at hdone<;>simp at hdone
 ·simp [zX]at hdone
  split at hdone<;>simp at hdone

variable{base:Nat}
def fe.perm{B:Nat->Prop}(h:O.Perm O'):fe base B w S O->fe base B w S O' :=by
 induction h with
 |nil=>exact id
 |cons x p ih=>
  rintro⟨X,K,h3⟩
  exact⟨X,fun f hf=>K f (p.mem_iff.2 hf),ih h3⟩
 |swap x y l=>
  rintro⟨X,K,h3,h4,h5⟩
  refine⟨h3,fun f hf k hk hfk=>?_,X,fun f hf=>K f (ry _ hf),h5⟩
  rcases kj.1 hf with rfl|hf
  ·exact K x (qa ..) k hfk hk
  ·exact h4 f hf k hk hfk
 |trans _ _ ih1 ih2=>exact fun k=>ih2 (ih1 k)
def vl(O:List OE):List Nat->List OE
 |[]=>[]
 |i::l=>match O[i]? with
  |some e=>e::vl O l
  |none=>vl O l
def Bb(O:List OE): ∀a b:List Nat,vl O (a++b)=vl O a++vl O b
 |[],_=>rfl
 |i::a,b=>by
  simp only [FJ,vl]
  split<;>simp [Bb O a b]
def Ly{a b:List Nat}(h:a.Perm b):(vl O a).Perm (vl O b):=by
 induction h with
 |nil=>exact .nil
 |cons x p ih=>
  simp only [vl]
  split
  ·exact .cons _ ih
  ·exact ih
 |swap x y l=>
  simp only [vl]
  cases V:O[x]? <;>cases hy:O[y]? <;>simp<;>exact .swap ..
 |trans _ _ ih1 ih2=>exact ih1.trans ih2
def JR(O:List OE):vl O (List.range O.length)=O:=by
 have key: ∀n,n<=O.length->vl O (List.range n)=O.take n:=by
  intro n
  induction n with
  |zero=>intro _;rfl
  |succ n ih=>
   intro h
   rw [List.range_succ,Bb,ih (by omega)]
   simp only [vl]
   rw [lI (by omega),PY (by omega)]
 rw [key _ (eJ _),DF]
def fe.pick{B:Nat->Prop}(l:List Nat)(hl:l.isPerm (List.range O.length)=true)(h:fe base B w S O):fe base B w S (vl O l):=
 h.perm (by
  have:=Ly (O:=O) (List.isPerm_iff.1 hl)
  rw [JR]at this
  exact this.symm)

section
section
variable{ty:TypeId}
end
end
open Go.ChangeShapes Go.WideShapes Go.ChangeAt

variable{hb:Type}{W:World}{enc:TypeId×Value->hb}
section
def Ka(W:World):SH:=fun b=>W.heap[b]?
def Wy(W:World)(Y: ∀p∈ZG,∃c T fr,W.heap[p.1]? =some (.cells c T fr)/\c.toList.take p.2.length=p.2)(D: ∀w' :World,(∀(b:Nat) (o:Obj),W.heap[b]? =some o-> ∃o',w'.heap[b]? =some o' /\IY o o')->Zl w'):nm W (Ka W):=⟨fun _ o h=>⟨o,h,uA o⟩,Y,D⟩
def AF(enc:TypeId×Value->hb)(P:Program)(W:World){α:Type}(t:TypeId)(r:Rp α):Prop:=
 P.cellsOf t=r.sz/\ ∀fuel cs x,DataW.trod enc P W 0 (fun _=>true) true fuel t cs=some x-> ∃y,r.rc (Ka W) cs y
def Qr(h:P.underlying t=some .bool)(hc:P.cellsOf t=1):AF enc P W t rB:=⟨hc,fun fuel cs x V=>by
 cases fuel with
 |zero=>simp [DataW.trod]at V
 |succ n=>
  unfold DataW.trod at V
  rw [h]at V
  split at V
  all_goals try (injections;done)
  ·exact⟨_,rfl⟩⟩
def wn{α β:Type}{f:α->Option β}: ∀{l:List α} {r:List β},l.mapM f=some r->r.length=l.length/\ ∀(i:Nat) (x:α),l[i]? =some x-> ∃y,r[i]? =some y/\f x=some y
 |[],r,h=>by
  simp at h
  subst h
  exact⟨rfl,fun i x V=>by simp at V⟩
 |a::l,r,h=>by
  rw [List.mapM_cons]at h
  cases hf:f a with
  |none=>rw [hf]at h;simp at h
  |some b=>
   rw [hf]at h
   cases hm:l.mapM f with
   |none=>rw [hm]at h;simp at h
   |some r' =>
    rw [hm]at h
    simp at h
    subst h
    obtain⟨X,K⟩:=wn hm
    refine⟨by simp [X],fun i x V=>?_⟩
    cases i with
    |zero=>simp at V;subst V;exact⟨b,rfl,hf⟩
    |succ i=>exact K i x (by simpa using V)
def CC{a:Addr}(h:W.cell? a=some v):a.spot=none/\ ∃c E fr,W.heap[a.block]? =some (.cells c E fr)/\c[a.off]? =some v:=by
 unfold World.cell? at h
 cases ho:W.heap[a.block]? with
 |none=>rw [ho]at h;cases h
 |some o=>
  rw [ho]at h
  cases o with
  |cells c E fr=>
   simp only at h
   by_cases hs:a.spot.isSome=true
   ·rw [bJ hs]at h;cases h
   ·rw [bk hs]at h
    exact⟨by cases hq:a.spot with
     |none=>rfl
     |some ac=>rw [hq]at hs;simp at hs,c,E,fr,rfl,h⟩
  |_=>simp at h
def Ho(a:Addr):a.add 0=a:=by unfold Addr.add;rfl
def Mw(h:W.cells? 0 ⟨b,off,none⟩ n=some cs)(hn:0<n): ∃c E fr,W.heap[b]? =some (.cells c E fr)/\cs=(c.toList.drop off).take n:=by
 unfold World.cells? at h
 rw [bJ (oW _)]at h
 obtain⟨X,K⟩:=wn h
 obtain⟨v,_,hv⟩:=K 0 0 (by simp [hn])
 obtain⟨_,c,E,fr,h3,h4⟩:=CC hv
 refine⟨c,E,fr,by simpa [Addr.add] using h3,?_⟩
 apply List.ext_getElem?
 intro i
 have hl:cs.length=n:=by simpa using X
 by_cases hi:i<n
 ·obtain⟨v,h5,h6⟩:=K i i (by simp [hi])
  obtain⟨_,c',E',fr',h7,h8⟩:=CC h6
  rw [jR]at h7 h8
  have h7' :W.heap[b]? =some (.cells c' E' fr'):=h7
  have h3' :W.heap[b]? =some (.cells c E fr):=by simpa [Addr.add] using h3
  rw [h3']at h7'
  injection h7' with h7'
  injection h7' with e1
  subst e1
  rw [h5,zu hi,wF]
  simpa using h8.symm
 ·rw [DP (by omega),DP (by simp;omega)]
def Ou{q:Rp α}{len:Nat}{a:Addr}{x:DataW hb×List MemPlace}(h0' :0<q.sz)(hq:AF enc P W e q)(V:(let elemAt (i:Nat):Option (DataW hb×List MemPlace):=(W.cells? 0 (a.add (i*P.cellsOf e)) (P.cellsOf e)).bind (DataW.trod enc P W 0 (fun _=>true) true n e)
   if 0<=a.block/\len<=cap/\cap<=maxLen then
    ((List.range len).mapM elemAt).bind fun elems=>
     (if(fun _=>true) a.block then(List.range (cap-len)).mapM fun j=>elemAt (len+j)else some []).map fun rest=>
      (DataW.slice (elems.map (·.1)) (rest.map (·.1)),MemPlace.row a ((elems.length+rest.length)*P.cellsOf e)++(elems++rest).flatMap (·.2))
   else none)=some x): ∃y,(f6 q).rc (Ka W) [.slice (some a) len cap] y:=by
 simp only at V
 split at V
 ·rename_i hcond
  obtain⟨_,hle,hmax⟩:=hcond
  cases hm:(List.range len).mapM (fun i=>(W.cells? 0 (a.add (i*P.cellsOf e)) (P.cellsOf e)).bind (DataW.trod enc P W 0 (fun _=>true) true n e))with
  |none=>rw [hm]at V;simp at V
  |some elems=>
   obtain⟨hm1,hm2⟩:=wn hm
   rw [hq.1]at hm2
   by_cases hl0:len=0
   ·subst hl0;exact⟨[],some a,cap,rfl,oW _,hmax,.inl rfl⟩
   have hsp0:a.spot=none:=by
    obtain⟨z,_,hz⟩:=hm2 0 0 (by rw [List.getElem?_range (by omega)])
    rw [Nat.zero_mul,Ho]at hz
    cases hcs:W.cells? 0 a q.sz with
    |none=>rw [hcs]at hz;simp at hz
    |some cs1=>
     unfold World.cells? at hcs
     rw [bJ (oW _)]at hcs
     obtain⟨_,g2⟩:=wn hcs
     obtain⟨v,_,hv⟩:=g2 0 0 (by simp [h0'])
     rw [Ho]at hv
     exact(CC hv).1
   have hcell: ∀i,i<len-> ∃c E fr,a.spot=none/\W.heap[a.block]? =some (.cells c E fr)/\ ∃y,q.rc (Ka W) ((c.toList.drop (a.off+i*q.sz)).take q.sz) y:=by
    intro i hi
    obtain⟨z,_,hz⟩:=hm2 i i (by simp [hi])
    cases hcs:W.cells? 0 (a.add (i*q.sz)) q.sz with
    |none=>rw [hcs]at hz;simp at hz
    |some cs1=>
     rw [hcs]at hz
     have hsp:a.spot=none:=hsp0
     obtain⟨ab,ao,az⟩:=a
     simp only at hsp
     subst hsp
     rw [jR]at hcs
     obtain⟨c,E,fr,g1,g2⟩:=Mw hcs h0'
     obtain⟨y,hy⟩:=hq.2 n cs1 z hz
     exact⟨c,E,fr,rfl,g1,y,by rw [<-g2];exact hy⟩
   obtain⟨c,E,fr,hsp,H,_⟩:=hcell 0 (by omega)
   have key: ∀m,m<=len-> ∃ys:List α,ys.length=m/\sh q (Ka W) ((c.toList.drop a.off).take (m*q.sz)) ys:=by
    intro m
    induction m with
    |zero=>intro _;exact⟨[],rfl,by simp [sh]⟩
    |succ m ih=>
     intro hm'
     obtain⟨ys,hy1,hy2⟩:=ih (by omega)
     obtain⟨c',E',fr',_,hb',y,hy⟩:=hcell m (by omega)
     rw [H]at hb'
     injection hb' with hb'
     injection hb' with e1
     subst e1
     refine⟨ys++[y],by simp [hy1],?_⟩
     have hsplit:(c.toList.drop a.off).take ((m+1)*q.sz)=(c.toList.drop a.off).take (m*q.sz)++(c.toList.drop (a.off+m*q.sz)).take q.sz:=by
      rw [xI,Nat.one_mul,List.take_add,uV]
     rw [hsplit]
     exact sD hy2 (Lw.2 hy)
   obtain⟨ys,hy1,hy2⟩:=key len (eJ _)
   obtain⟨ab,ao,az⟩:=a
   simp only at hsp
   subst hsp
   exact⟨ys,some ⟨ab,ao,none⟩,cap,by rw [hy1],by omega,hmax,.inr ⟨ab,ao,c,E,fr,rfl,H,by rw [hy1];exact hy2⟩⟩
 ·cases V
def ss{q:Rp α}(h:P.underlying t=some (.slice e))(hc:P.cellsOf t=1)(h0:Nat.blt 0 q.sz=true)(hq:AF enc P W e q):AF enc P W t (f6 q):=⟨hc,fun fuel cs x V=>by
 have h0' :0<q.sz:=by simpa [vD] using h0
 cases fuel with
 |zero=>simp [DataW.trod]at V
 |succ n=>
  unfold DataW.trod at V
  rw [h]at V
  split at V
  all_goals try (injections;done)
  ·exact⟨[],none,0,rfl,eJ _,oW _,.inl rfl⟩
  ·rename_i e' a len cap heq
   injection heq with e1
   injection e1 with e1
   subst e1
   exact Ou h0' hq V⟩
def Vq(enc:TypeId×Value->hb)(P:Program)(W:World){α:Type}(off:Nat)(l:List (TypeId×Nat))(r:Rp α):Prop:=
 ∀(fuel:Nat) (cs:List Value),cs.length=off+r.sz->(∀f∈l,∃x,DataW.trod enc P W 0 (fun _=>true) true fuel f.1 ((cs.drop f.2).take (P.cellsOf f.1))=some x)-> ∃y,r.rc (Ka W) (cs.drop off) y
def td{t:Nat}(h:AF enc P W t r):Vq enc P W off [(t,off)] r:=fun fuel cs hl V=>by
 obtain⟨x,V⟩:=V _ (List.mem_singleton_self _)
 simp only at V
 rw [h.1,uj (by simp;omega)]at V
 exact h.2 _ _ _ V
def fR{p:Rp α}{t off' :Nat}{l:List (TypeId×Nat)}(h:AF enc P W t p)(ho:off' =off+p.sz)(hr:Vq enc P W off' l q):Vq enc P W off ((t,off)::l) (cH p q):=fun fuel cs hl V=>by
 subst ho
 obtain⟨x,hx1⟩:=V _ (qa ..)
 simp only at hx1
 rw [h.1]at hx1
 obtain⟨y,hy⟩:=h.2 _ _ _ hx1
 obtain⟨z,hz⟩:=hr fuel cs (by rw [hl];show off+(p.sz+q.sz)=_;omega) fun f hf=>V f (ry _ hf)
 exact⟨(y,z),_,_,by rw [<-uV];exact(ui _ _).symm,hy,hz⟩
def pz{l:List (TypeId×Nat)}{p:Rp α}{f:β->α}(D:(P.underlying t).map (fun aR=>match aR with| .struct l=>(true,l.toList.map fun f=>(f.type,f.offset))|_=>(false,[]))=some (true,l))(hc:P.cellsOf t=p.sz)(hf: ∀y,∃x,f x=y)(hl:Vq enc P W 0 l p):AF enc P W t (nN p f):=⟨hc,fun fuel cs x V=>by
 obtain⟨fs,X,K⟩: ∃fs,P.underlying t=some (.struct fs)/\fs.toList.map (fun f=>(f.type,f.offset))=l:=by
  cases hu:P.underlying t with
  |none=>rw [hu]at D;cases D
  |some aR=>
   rw [hu]at D
   cases aR<;>simp at D
   exact⟨_,rfl,D⟩
 cases fuel with
 |zero=>simp [DataW.trod]at V
 |succ n=>
  unfold DataW.trod at V
  rw [X]at V
  change (if cs.length=P.cellsOf t then(fs.toList.mapM fun f=>DataW.trod enc P W 0 (fun _=>true) true n f.type ((cs.drop f.offset).take (P.cellsOf f.type))).map (fun xs=>(DataW.agg (xs.map (·.1)),xs.flatMap (·.2)))else none)=some x at V
  split at V
  ·rename_i hlen
   cases hm:fs.toList.mapM (fun f=>DataW.trod enc P W 0 (fun _=>true) true n f.type ((cs.drop f.offset).take (P.cellsOf f.type)))with
   |none=>rw [hm]at V;simp at V
   |some r=>
    obtain⟨_,hm2⟩:=wn hm
    obtain⟨y,hy⟩:=hl n cs (by rw [hlen,hc];omega) (fun g Y=>by
     rw [<-K,AS]at Y
     obtain⟨f0,hf0,rfl⟩:=Y
     obtain⟨i,hi⟩:=List.getElem?_of_mem hf0
     obtain⟨z,_,hz⟩:=hm2 i f0 hi
     exact⟨z,hz⟩)
    obtain⟨x',hx'⟩:=hf y
    refine⟨x',?_⟩
    show p.rc _ cs (f x')
    rw [hx']
    simpa using hy
  ·cases V⟩
def IN{W' :World}(h:la uX W S W' S'):Below W.heap.size W W' :=⟨h.os,h.tape,h.output,h.size,fun k hk=>h.heap k hk (fun h=>h)⟩
def zE(hl:laidOutB P=true){W W' :World}(H:Below W.heap.size W W'){sp:Nat->Bool}: ∀{ts:List TypeId} {vs:List Value} {ds:List (DataW hb)} {ps:List MemPlace},(∀t∈ts,P.readableRec t=true/\t<P.types.size)->
  DataW.TrodAll enc P W 0 (fun _=>true) true ts vs ds ps->(∀p∈ps,p.block<W.heap.size)->(∀p∈ps,sp p.block=true)->DataW.TrodAll enc P W' 0 sp true ts vs ds ps
 |[],[],[],_,_,h,_,_=>h
 |t::ts,v::vs,aR::ds,_,hr,⟨p,q,X,K,e⟩,hlt,hsp=>by
  subst e
  have D:=hr t (qa ..)
  exact⟨p,q,WideElems.Trod_stays hl D.1 D.2 X (fun x V=>H.same (hlt x (DO _ V))) (fun x V=>hsp x (DO _ V)),
   zE hl H (fun t D=>hr t (ry _ D)) K (fun x V=>hlt x (List.mem_append_right _ V)) (fun x V=>hsp x (List.mem_append_right _ V)),rfl⟩
def Rj{f:Func}{ac:ChangeSpec}{apart fresh handsOn again:Bool}{W' :World}{args:Array Value}{ds gs:List (DataW hb)}{before:List MemPlace}{tb:TypeId}(hl:laidOutB P=true)(hr: ∀t∈f.params.toList,P.readableRec t=true/\t<P.types.size)(hvs:ac.vars=[])(hres:f.resultTypes= #[tb])(htb:P.underlying tb=some .bool)(hW:DataW.Whole enc P f.params.toList ac.vars apart W args.toList ds gs before)(hs:ac.fn hb (ds++gs)={results:=[.lit (.bool true)],args:=ds})(H:Below W.heap.size W W'):
  ac.post enc P f apart fresh handsOn again W args (.bool true) W' :=by
 have hW0:=hW
 have hlt:=hW.lt
 obtain⟨pa,pv,hA,hV,rfl,hz,hn⟩:=hW
 rw [hvs]at hV
 have hpv:pv=[]:=by
  cases gs with
  |nil=>exact hV
  |cons g gs=>exact hV.elim
 subst hpv
 have hlt' : ∀p∈pa,p.block<W.heap.size:=fun p hp=>hlt p (by simpa using hp)
 have hargs: ∀sp:Nat->Bool,(∀p∈pa,sp p.block=true)->DataW.TrodAll enc P W' 0 sp true f.params.toList args.toList ds pa:=fun sp hsp=>zE hl H hr hA hlt' hsp
 have hresT: ∀(b:Nat) (sp:Nat->Bool) (hd:Bool),DataW.TrodAll enc P W' b sp hd f.resultTypes.toList ((Value.bool true).resultList f.resultTypes.size) [.lit (.bool true)] []:=fun b sp hd=>by
  rw [hres]
  exact⟨[],[],⟨1,by simp [DataW.trod,htb,Value.cells]⟩,rfl,rfl⟩
 have hvT: ∀sp:Nat->Bool,DataW.TrodVars enc P W' sp ac.vars (ac.fn hb (ds++gs)).vars []:=fun sp=>by
  rw [hvs,hs];rfl
 have hargs' : ∀sp:Nat->Bool,(∀p∈pa,sp p.block=true)->DataW.TrodAll enc P W' 0 sp true f.params.toList args.toList (ac.fn hb (ds++gs)).args pa:=fun sp hsp=>by rw [hs];exact hargs sp hsp
 have hres' : ∀(b:Nat) (sp:Nat->Bool) (hd:Bool),DataW.TrodAll enc P W' b sp hd f.resultTypes.toList ((Value.bool true).resultList f.resultTypes.size) (ac.fn hb (ds++gs)).results []:=fun b sp hd=>by rw [hs];exact hresT b sp hd
 have hold: ∀p∈pa,(fun b=>decide (b<W.heap.size)) p.block=true:=fun p hp=>by simpa using hlt' p hp
 refine⟨ds,gs,pa++[],[],pa,[],hW0,hres' _ _ _,hargs' _ hold,hvT _,World.keptBut_mono (fun p hp=>⟨hp,?_⟩) (H.frame _),fun _=>?_⟩
 ·right;simpa using hp
 ·refine⟨?_,_,_,([]++pa)++[],⟨[]++pa,[],trodAll_append (hargs' _ (fun _ _=>rfl)) (hres' _ _ _),hvT _,rfl,?_,?_⟩,?_⟩
  ·intro j t r X K
   rw [hres]at X K
   cases j with
   |zero=>
    simp [Value.resultList]at X K
    subst X K
    simp [Value.okWide,htb,Cell.okWide,Cell.ok]
   |succ j=>simp at X
  ·intro b off hp
   have hp' :MemPlace.cell b off∈pa:=by simpa using hp
   have:=hlt' _ hp'
   rw [H.frozen (p:=⟨b,off,none⟩) this]
   exact hz b off (by simpa using hp')
  ·intro ha
   have:=hn ha
   simpa using this
  ·intro p hp _
   simpa using hp
end

section
def zM{α:Type}(r:Rp α)(ok:α->Prop):Rp α where
 sz:=r.sz
 agg:=r.agg
 rc:=fun S cs x=>r.rc S cs x/\ok x
 mono:=fun h k=>⟨r.mono h k.1,k.2⟩
 len:=fun k=>r.len k.1
 one:=fun k=>r.one k.1
 sc:=r.sc
def vP(k:IntKind)(n:Int):Prop:=k.min<=n/\n<=k.max
def inS(ac:N1):Prop:=ac.length<=maxLen
def PT{α:Type}(ok:α->Prop)(xs:List α):Prop:=xs.length<=maxLen/\ ∀x∈xs,ok x
def YK{α:Type}(_:α):Prop:=True
def D4(h:P.underlying t=some (.int k))(hc:P.cellsOf t=1):AF enc P W t (zM (rI k) (vP k)):=⟨hc,fun fuel cs x V=>by
 cases fuel with
 |zero=>simp [DataW.trod]at V
 |succ n=>
  unfold DataW.trod at V
  rw [h]at V
  split at V
  all_goals try (injections;done)
  ·rename_i k1 k2 m heq
   injection heq with e
   injection e with e
   subst e
   split at V
   ·rename_i K
    obtain⟨rfl,h3⟩:=K
    simp only [Lit.wf,pt,mp]at h3
    exact⟨m,rfl,h3⟩
   ·cases V⟩
def Qq(h:P.underlying t=some .string)(hc:P.cellsOf t=1):AF enc P W t (zM rS inS):=⟨hc,fun fuel cs x V=>by
 cases fuel with
 |zero=>simp [DataW.trod]at V
 |succ n=>
  unfold DataW.trod at V
  rw [h]at V
  split at V
  all_goals try (injections;done)
  ·rename_i ac heq
   split at V
   ·rename_i K;exact⟨ac.data.toList,rfl,(show ac.data.toList.length<=maxLen from(show ac.size=ac.data.toList.length from rfl)▸K)⟩
   ·cases V⟩
def Ov(h:P.underlying t=some .bool)(hc:P.cellsOf t=1):AF enc P W t (zM rB YK):=
 ⟨hc,fun fuel cs x V=>by obtain⟨y,hy⟩:=(Qr (enc:=enc) (W:=W) h hc).2 fuel cs x V;exact⟨y,hy,trivial⟩⟩
def I0{α:Type}(r' r:Rp α)(ok:α->Prop):Prop:=r'.sz=r.sz/\r'.agg=r.agg/\ ∀S cs x,r'.rc S cs x->r.rc S cs x/\ok x
def mu:I0 (zM r ok) r ok:=⟨rfl,rfl,fun _ _ _ h=>h⟩
def M2{α:Type}{r' r:Rp α}{ok:α->Prop}(h:I0 r' r ok){S:SH}: ∀{xs:List α} {cs:List Value},sh r' S cs xs->sh r S cs xs/\ ∀x∈xs,ok x
 |[],_,k=>⟨k,fun x V=>by cases V⟩
 |x::xs,_,⟨a,b,e,X,K⟩=>by
  obtain⟨g1,g2⟩:=h.2.2 _ _ _ X
  obtain⟨g3,g4⟩:=M2 h K
  exact⟨⟨a,b,e,g1,g3⟩,fun y hy=>by
   rcases kj.1 hy with rfl|hy
   ·exact g2
   ·exact g4 y hy⟩
def wO{r' :Rp α}(h:I0 r' r ok):I0 (f6 r') (f6 r) (PT ok):=⟨rfl,rfl,fun S cs xs ⟨a,cap,e,X,K,h3⟩=>by
 rcases h3 with h3|⟨b,off,c,E,fr,e1,e2,e3⟩
 ·exact⟨⟨a,cap,e,X,K,.inl h3⟩,by omega,fun x V=>by rw [h3]at V;cases V⟩
 ·rw [h.1]at e3
  obtain⟨g1,g2⟩:=M2 h e3
  exact⟨⟨a,cap,e,X,K,.inr ⟨b,off,c,E,fr,e1,e2,g1⟩⟩,by omega,g2⟩⟩
def gZ{p' p:Rp α}{q' :Rp β}{f:α->Prop}{g:β->Prop}(h:I0 p' p f)(k:I0 q' q g):I0 (cH p' q') (cH p q) (fun x=>f x.1/\g x.2):=
 ⟨by show p'.sz+q'.sz=p.sz+q.sz;rw [h.1,k.1],rfl,fun S cs x ⟨a,b,e,X,K⟩=>⟨⟨a,b,e,(h.2.2 _ _ _ X).1,(k.2.2 _ _ _ K).1⟩,(h.2.2 _ _ _ X).2,(k.2.2 _ _ _ K).2⟩⟩
def va{p' p:Rp α}{f:β->α}(h:I0 p' p ok):I0 (nN p' f) (nN p f) (fun x=>ok (f x)):=
 ⟨h.1,rfl,fun S cs x k=>h.2.2 _ _ _ k⟩
def Vj{r' :Rp α}(h:AF enc P W t r')(hr:I0 r' r ok)(hag:r.agg=true){aR:DataW hb}{ps:List MemPlace}(hv:DataW.Trod enc P W 0 (fun _=>true) true t v aR ps)(hc:v= .agg v.cells): ∃y,(tD r y).p (Ka W) v/\ok y:=by
 obtain⟨fuel,V⟩:=hv
 obtain⟨y,hy⟩:=h.2 _ _ _ V
 obtain⟨g1,g2⟩:=hr.2.2 _ _ _ hy
 exact⟨y,⟨_,by unfold Rp.val;rw [hag,bJ rfl];exact hc,g1⟩,g2⟩
def IK{l:Array Field}(D:P.underlying t=some (.struct l))(hv:Value.okWide P W .any base t v):v= .agg v.cells:=by
 unfold Value.okWide at hv
 rw [D]at hv
 obtain⟨cs,e,_⟩:=hv
 rw [e]
 rfl
end

section
variable{held:Bool}
end

def JN{α:Type}{r:Rp α}(hfree: ∀{S S' :SH} {cs:List Value} {x:α},r.rc S cs x->r.rc S' cs x){S S' :SH}: ∀{xs:List α} {cs:List Value},sh r S cs xs->sh r S' cs xs
 |[],_,h=>h
 |_::_,_,h=>by
  obtain⟨ds,es,X,K,h3⟩:=h
  exact⟨ds,es,X,hfree K,JN hfree h3⟩
def ab0{l:Option Nat}(h:AE mm r T l cap xs w S)(hs:nm w S): ∃S1,SH.le S S1/\nm w S1/\(tD (f6 r) xs).p S1 (ay l cap xs.length):=by
 cases mm with
 |true=>exact⟨S,SH.le_refl _,hs,nr h⟩
 |false=>
  obtain⟨cells,X,K,h3⟩:=h
  cases l with
  |none=>exact⟨S,SH.le_refl _,hs,nr (T:=T) ⟨cells,X,K,fun b H=>(by cases H)⟩⟩
  |some b=>
   obtain⟨cur,g1,g2,g3,g4,g5⟩:=X
   have hoo:IY (.cells cells.toArray T (0,0)) (.cells cur T (0,0)):=by
    refine⟨cur.toList.drop (xs.length*r.sz),?_⟩
    congr 1
    apply Array.ext'
    rw [<-g5,ui]
   have hn:S b=none:=h3 b rfl
   have hle:SH.le S (S.set b (.cells cells.toArray T (0,0))):=ww fun q hq=>(by rw [hn]at hq;cases hq)
   have hsat:nm w (S.set b (.cells cells.toArray T (0,0))):=hs.set g1 hoo fun q hq=>by rw [hn]at hq;cases hq
   refine⟨_,hle,hsat,nr (T:=T) ⟨cells,⟨cur,g1,g2,g3,g4,g5⟩,s9 hle K,fun b' hb' =>?_⟩⟩
   have hb2:b=b' :=rE hb'
   subst hb2
   exact nU _ _ _
section
variable{ty:TypeId}
def D2{S1:SH}{t:Ty}{vs:List Value}(h:t.p S1 v)(k:xH S1 ts vs):xH S1 (t::ts) (v::vs):=⟨h,k⟩
def YX{G:mV}{x:Operand}{t:Ty}{S1:SH}(h:aY N G x t)(hf:cE N S a G)(hle:SH.le S S1):t.p S1 (a.eval x):=t.mono hle (h S a hf)
def Td{b:Bool}(S S' :SH)(v:Value)(h:(tD rB b).p S v):(tD rB b).p S' v:=jc.2 (jc.1 h)
end

section
variable{ty:TypeId}
def hH{y:α}{x:Operand}(hag:r.agg=true)(hr: ∀S,r.rc S [v] y)(h:aY N G x (M (.agg #[v]))):aY N G x (tD r y):=fun S a hf=>⟨[v],by rw [Rp.val,bJ hag];exact h S a hf,hr S⟩
end

section
variable{N:Nat}{w0:World}{S0:SH}{O1:List OE}{ι:Type}{t:ι->Ty}{O2:ι->List OE}
end
section
variable{c:Code}
end

section
variable{ty:TypeId}
end
section
variable{ty:TypeId}
end

def J{α:Sort _}{a:α}:a=a:=rfl
def aZ:True:=trivial
abbrev bH(x:Int):Ty:=tD (rI .i64) x
abbrev fM(x:Bool):Ty:=tD rB x
abbrev kE{α:Type}(l:List α):Ty:=tD (rI .i64) (l.length:Int)
abbrev nq:Rp (List Int):=f6 (rI .i64)
abbrev jK(l:List Int):Ty:=tD (f6 (rI .i64)) l
abbrev em{α:Type}(r:Rp α)(l:List α):Ty:=tD (f6 r) l
abbrev nO{α:Type}(l:Option Nat)(c:Nat)(xs:List α):Ty:=M (ay l c xs.length)
def aX: ∀{G' G:mV},G'.map (fun p=>cC G p.1)=G'.map (fun p=>some p.2)->OB G' G
 |[],_,_=>trivial
 |(_,_)::_,_,h=>⟨(zA h).1,aX (zA h).2⟩

variable{ix:Nat}{xt:TypeId}
section
variable{ty:TypeId}
def mt{t:Ty}(h:cC G x=some t):cI E O G ⟨dst,.move (.tmp x),ty,pos,after,g⟩ t:=bT (D h)
def DX{t:Ty}(h:cC G x=some t):cI E O G ⟨dst,.assign (.tmp x),ty,pos,after,g⟩ t:=bU (D h)
def zai{n:Int}:cI E O G ⟨dst,.assign (.const (.int k n)),ty,pos,after,g⟩ (tD (rI k) n):=bU hI
def zab{b:Bool}:cI E O G ⟨dst,.assign (.const (.bool b)),ty,pos,after,g⟩ (tD rB b):=bU hB
def yT{x:α}{p:Nat}(ti:TI E.P U sz bytes agg z)(hp:cC G p=some (ck r x))(hs:(r.sz,r.agg)=(sz,agg)):
  cI E O G ⟨dst,.load U (.tmp p),ty,pos,after,g⟩ (tD r x):=ej ti (wE hs).1 (wE hs).2 (D hp)
def oq{get:α->β}{x:α}{i:Nat}{p:Nat}(hf:bZ E.P T i=some (off,sz))(hq:md r off q get)(hp:cC G p=some (ck r x))(h0:(!(Nat.beq sz 0)&&Nat.ble (off+q.sz) r.sz)=true):cI E O G ⟨dst,.fieldAddr T (.tmp p) i,ty,pos,after,g⟩ (ck q (get x)):=
 fj hf (by cases h:Nat.beq sz 0<;>simp [h]at h0 ⊢) hq (by revert h0;cases Nat.ble (off+q.sz) r.sz<;>simp) (D hp)
def ST(hu:E.P.underlying t=some (.slice e))(V:cC G x=some (tD (f6 r) xs)):
  cI E O G ⟨dst,.call ⟨.builtin .len,#[.tmp x],#[t]⟩,ty,pos,after,g⟩ (tD (rI .i64) (xs.length:Int)):=eS hu (D V)
def Jd{i:Nat}{t:Ty}(hi:ts[i]? =some t)(V:cC G x=some (tT ts)):cI E O G ⟨dst,.extract (.tmp x) i,ty,pos,after,g⟩ t:=LK hi (D V)
def zbx{v:α}(V:cC G x=some (tD r v)):cI E O G ⟨dst,.box T (.tmp x),ty,pos,after,g⟩ (ck r v):=Q8 (D V)
def PR{b q:Bool}(hc:cC G c=some (tD rB b))(V:cC G x=some (qg b (tD rB q))):cI E O G ⟨dst,.pick (.tmp c) (.tmp x) (.const (.bool false)),ty,pos,after,g⟩ (tD rB (b&&q)):=jm (D hc) (fun H=>bl V H)
def YQ{b q:Bool}(hc:cC G c=some (tD rB b))(V:cC G x=some (qg (!b) (tD rB q))):cI E O G ⟨dst,.pick (.tmp c) (.const (.bool true)) (.tmp x),ty,pos,after,g⟩ (tD rB (b||q)):=kL (D hc) (fun H=>bl V (sb H))
variable{y:Nat}{m n:Int}
def zlt(V:cC G x=some (tD (rI k) m))(hy:cC G y=some (tD (rI k) n)):cI E O G ⟨dst,.binOp .lss xt (.tmp x) (.tmp y) yt,ty,pos,after,g⟩ (tD rB (decide (m<n))):=fH (D V) (D hy)
def YS(V:cC G x=some (tD (rI j) m)):cI E O G ⟨dst,.binOp .eql xt (.tmp x) (.const (.int j n)) yt,ty,pos,after,g⟩ (tD rB (m==n)):=di (D V) hI
def zni(V:cC G x=some (tD (rI j) m)):cI E O G ⟨dst,.binOp .neq xt (.tmp x) (.const (.int j n)) yt,ty,pos,after,g⟩ (tD rB (m !=n)):=du (D V) hI
def B3{y:α}{x:Nat}{k:IntKind}{i:Int}(hu:E.P.underlying t=some (.slice e))(ti:TI E.P e sz bytes agg z)(hsz:r.sz=sz)(V:cC G x=some (tD (f6 r) xs))(hi:cC G ix=some (tD (rI k) i))(hy:gB xs i=some y):
  cI E O G ⟨dst,.indexAddr t (.tmp x) (.tmp ix),ty,pos,after,g⟩ (ck r y):=fJ hu ti hsz (D V) (D hi) hy
def zin{i:Nat}{x:Nat}{xt yt:TypeId}(hi:i<9223372036854775807)(V:cC G x=some (tD (rI .i64) (i:Int))):
  cI E O G ⟨dst,.binOp .add xt (.tmp x) (.const (.int .i64 1)) yt,ty,pos,after,g⟩ (tD (rI .i64) ((i+1:Nat):Int)):=Du hi (D V) hI
def q9{i o:Nat}{p:Nat}(n:Nat)(hf:bZ E.P T i=some (off,sz))(h0:Nat.beq sz 0=false)(hp:cC G p=some (M (Z b o)))(he:o+off=n):cI E O G ⟨dst,.fieldAddr T (.tmp p) i,ty,pos,after,g⟩ (M (Z b n)):=cr (n:=n) hf h0 (D hp) he
end
section
variable{l:List Oper}
def zo{ty:TypeId}{t:Ty}(hd:Nat.blt aR E.N.n=true)(h:cI E O G ⟨some aR,op,ty,pos,after,none⟩ t)(k:RG E ops aK l O ((aR,t)::G)):
  RG E ops aK (⟨some aR,op,ty,pos,after,none⟩::l) O G:=vz h hd k
def uD(n aR:Nat)(r:Option Ty):Option Ty:=if Nat.blt aR n then r else none
def dm{r:Option Ty}{t:Ty}(h:uD n aR r=some t):Nat.blt aR n=true/\r=some t:=by
 unfold uD at h;split at h
 case isTrue X=>exact⟨X,h⟩
 case isFalse=>cases h
def Q{ty:TypeId}{t:Ty}(h:uD E.N.n aR (cC G x)=some t)(k:RG E ops aK l O ((aR,t)::G)):
  RG E ops aK (⟨some aR,.move (.tmp x),ty,pos,after,none⟩::l) O G:=vz (bT (D (dm h).2)) (dm h).1 k
def d6{ty:TypeId}{t:Ty}(h:uD E.N.n aR (cC G x)=some t)(k:RG E ops aK l O ((aR,t)::G)):
  RG E ops aK (⟨some aR,.assign (.tmp x),ty,pos,after,none⟩::l) O G:=vz (bU (D (dm h).2)) (dm h).1 k
def bu(h:CG E aK y O G):RG E ops (Exit.then (y.wpIn (fw E.r) 0 E.P aK) aK) [] O G:=aJ (au h)
def d{id:Nat}{l:List Oper}(h:RG E l.toArray (Exit.then (y.wpIn (fw E.r) 0 E.P aK) aK) l O G):CG E aK (.seq (.region id l.toArray false) y) O G:=aP (aj h)
def fy{β:Type _}{h1 hg:Option β}{r:β}{x:Code}{b:Bool}(h:(if b=true then h1 else hg)=some r)(H:cC G c=some (tD rB b))(V:h1=some r->CG E aK x O G)(hy:hg=some r->CG E aK y O G):CG E aK (.cond (.tmp c) x y) O G:=
 tZ (D H) (fun hc=>V (ct h hc)) (fun hc=>hy (cf h hc))
def fN(h:CG E aK y O G):CG E (Exit.then (y.wpIn (fw E.r) 0 E.P aK) aK) .skip O G:=bc (au h)
def zgt{j gs:Nat}{b:Bool}{ty:TypeId}{t:Ty}(hj:(ops[j]?).bind (·.dst)=some gs)(Y:uD E.N.n gs (uD E.N.n aR (cC G gs))=some (tD rB b))(h:b=true->cI E O G ⟨some aR,op,ty,pos,after,some (j,true)⟩ t)(k:RG E ops aK l O ((aR,qg b t)::G)):RG E ops aK (⟨some aR,op,ty,pos,after,some (j,true)⟩::l) O G:=Vl hj (dm Y).1 (dm (dm Y).2).2 (dm (dm Y).2).1 h k
def zgf{j gs:Nat}{b:Bool}{ty:TypeId}{t:Ty}(hj:(ops[j]?).bind (·.dst)=some gs)(Y:uD E.N.n gs (uD E.N.n aR (cC G gs))=some (tD rB b))(h:(!b)=true->cI E O G ⟨some aR,op,ty,pos,after,some (j,false)⟩ t)(k:RG E ops aK l O ((aR,qg (!b) t)::G)):RG E ops aK (⟨some aR,op,ty,pos,after,some (j,false)⟩::l) O G:=Vm hj (dm Y).1 (dm (dm Y).2).2 (dm (dm Y).2).1 h k
end
def bR{α:Type _}{β:Type _}{x:Option α}{k:α->Option β}{r:β}{P:Prop}(h:x.bind k=some r)(f: ∀y,x=some y->k y=some r->P):P:=by
 obtain⟨y,X,K⟩:=bs h;exact f y X K
variable{u1:Ty}
section
variable{l:List Oper}{i:Nat}{t:Ty}
def Dp{a b c:Bool}(h:(a&&b&&c)=true):a=true/\b=true/\c=true:=by revert h;cases a<;>cases b<;>cases c<;>simp
def ZD{x:Option α}(h:x.isNone=true):x=none:=by cases x;rfl;cases h
def zd0(h:ts[i]? =some t)(k:cI E O [] o t)(H:(fv i o&&o.guard.isNone)=true:=by exact rfl): ∃(needs:List Nd) (t:Ty),ts[i]? =some t/\tn G ts needs/\(needs.all (qA l o i))=true/\fv i o=true/\cw E O l.toArray (kf needs) o t:=
 ⟨[],t,h,trivial,rfl,(CO.1 H).1,ai (ZD (CO.1 H).2) k⟩
def zZ(a:Nat)(h:ts[i]? =some t)(hu:zy G ts ⟨a,u,none⟩)(k:cI E O [(a,u)] o t)(H:([(⟨a,u,none⟩:Nd)].all (qA l o i)&&fv i o&&o.guard.isNone)=true:=by exact rfl): ∃(needs:List Nd) (t:Ty),ts[i]? =some t/\tn G ts needs/\(needs.all (qA l o i))=true/\fv i o=true/\cw E O l.toArray (kf needs) o t:=
 ⟨[(⟨a,u,none⟩:Nd)],t,h,⟨hu,trivial⟩,(Dp H).1,(Dp H).2.1,ai (ZD (Dp H).2.2) k⟩
def ff(a:Nat)(j:Nat)(h:ts[i]? =some t)(hu:zy G ts ⟨a,u,(some j)⟩)(k:cI E O [(a,u)] o t)(H:([(⟨a,u,(some j)⟩:Nd)].all (qA l o i)&&fv i o&&o.guard.isNone)=true:=by exact rfl): ∃(needs:List Nd) (t:Ty),ts[i]? =some t/\tn G ts needs/\(needs.all (qA l o i))=true/\fv i o=true/\cw E O l.toArray (kf needs) o t:=
 ⟨[(⟨a,u,(some j)⟩:Nd)],t,h,⟨hu,trivial⟩,(Dp H).1,(Dp H).2.1,ai (ZD (Dp H).2.2) k⟩
def S5(a:Nat)(a1:Nat)(j1:Nat)(h:ts[i]? =some t)(hu:zy G ts ⟨a,u,none⟩)(hu1:zy G ts ⟨a1,u1,(some j1)⟩)(k:cI E O [(a,u),(a1,u1)] o t)(H:([(⟨a,u,none⟩:Nd),⟨a1,u1,(some j1)⟩].all (qA l o i)&&fv i o&&o.guard.isNone)=true:=by exact rfl): ∃(needs:List Nd) (t:Ty),ts[i]? =some t/\tn G ts needs/\(needs.all (qA l o i))=true/\fv i o=true/\cw E O l.toArray (kf needs) o t:=
 ⟨[(⟨a,u,none⟩:Nd),⟨a1,u1,(some j1)⟩],t,h,⟨hu,hu1,trivial⟩,(Dp H).1,(Dp H).2.1,ai (ZD (Dp H).2.2) k⟩
def tt(a:Nat)(a1:Nat)(j1:Nat)(h:ts[i]? =some t)(hu:zy G ts ⟨a,u,none⟩)(hu1:zy G ts ⟨a1,u1,(some j1)⟩)(k:cw E O l.toArray [(a,u),(a1,u1)] o t)(H:([(⟨a,u,none⟩:Nd),⟨a1,u1,(some j1)⟩].all (qA l o i)&&fv i o)=true:=by exact rfl): ∃(needs:List Nd) (t:Ty),ts[i]? =some t/\tn G ts needs/\(needs.all (qA l o i))=true/\fv i o=true/\cw E O l.toArray (kf needs) o t:=
 ⟨[(⟨a,u,none⟩:Nd),⟨a1,u1,(some j1)⟩],t,h,⟨hu,hu1,trivial⟩,(CO.1 H).1,(CO.1 H).2,k⟩
def ga(a:Nat)(j:Nat)(a1:Nat)(j1:Nat)(h:ts[i]? =some t)(hu:zy G ts ⟨a,u,(some j)⟩)(hu1:zy G ts ⟨a1,u1,(some j1)⟩)(k:cI E O [(a,u),(a1,u1)] o t)(H:([(⟨a,u,(some j)⟩:Nd),⟨a1,u1,(some j1)⟩].all (qA l o i)&&fv i o&&o.guard.isNone)=true:=by exact rfl): ∃(needs:List Nd) (t:Ty),ts[i]? =some t/\tn G ts needs/\(needs.all (qA l o i))=true/\fv i o=true/\cw E O l.toArray (kf needs) o t:=
 ⟨[(⟨a,u,(some j)⟩:Nd),⟨a1,u1,(some j1)⟩],t,h,⟨hu,hu1,trivial⟩,(Dp H).1,(Dp H).2.1,ai (ZD (Dp H).2.2) k⟩
def km(a:Nat)(j:Nat)(a1:Nat)(j1:Nat)(h:ts[i]? =some t)(hu:zy G ts ⟨a,u,(some j)⟩)(hu1:zy G ts ⟨a1,u1,(some j1)⟩)(k:cw E O l.toArray [(a,u),(a1,u1)] o t)(H:([(⟨a,u,(some j)⟩:Nd),⟨a1,u1,(some j1)⟩].all (qA l o i)&&fv i o)=true:=by exact rfl): ∃(needs:List Nd) (t:Ty),ts[i]? =some t/\tn G ts needs/\(needs.all (qA l o i))=true/\fv i o=true/\cw E O l.toArray (kf needs) o t:=
 ⟨[(⟨a,u,(some j)⟩:Nd),⟨a1,u1,(some j1)⟩],t,h,⟨hu,hu1,trivial⟩,(CO.1 H).1,(CO.1 H).2,k⟩
def CP(a:Nat)(j:Nat)(a1:Nat)(j1:Nat)(a2:Nat)(j2:Nat){u2:Ty}(h:ts[i]? =some t)(hu:zy G ts ⟨a,u,(some j)⟩)(hu1:zy G ts ⟨a1,u1,(some j1)⟩)(hu2:zy G ts ⟨a2,u2,(some j2)⟩)(k:cw E O l.toArray [(a,u),(a1,u1),(a2,u2)] o t)(H:([(⟨a,u,(some j)⟩:Nd),⟨a1,u1,(some j1)⟩,⟨a2,u2,(some j2)⟩].all (qA l o i)&&fv i o)=true:=by exact rfl): ∃(needs:List Nd) (t:Ty),ts[i]? =some t/\tn G ts needs/\(needs.all (qA l o i))=true/\fv i o=true/\cw E O l.toArray (kf needs) o t:=
 ⟨[(⟨a,u,(some j)⟩:Nd),⟨a1,u1,(some j1)⟩,⟨a2,u2,(some j2)⟩],t,h,⟨hu,hu1,hu2,trivial⟩,(CO.1 H).1,(CO.1 H).2,k⟩
end

def xp{r ac:Option Ty}{t:Ty}(h:(uD n aR r,ac)=(some t,some u)):Nat.blt aR n=true/\r=some t/\ac=some u:=
 ⟨(dm (wE h).1).1,(dm (wE h).1).2,(wE h).2⟩
def Vw(G:mV):Operand->Option Ty
 | .tmp k=>cC G k
 | .const (.int k n)=>some (tD (rI k) n)
 | .const (.bool b)=>some (tD rB b)
 |_=>none
def Lc{t:Ty}: ∀{x:Operand},Vw G x=some t->aY N G x t
 | .tmp _,h=>D h
 | .const (.int _ _),h=>by cases h;exact hI
 | .const (.bool _),h=>by cases h;exact hB
def cy{N:Fr}{G:mV}: ∀{xs:List Operand} {ts:List Ty},xs.map (Vw G)=ts.map some->lv N G xs ts
 |[],[],_=>trivial
 |_::_,_::_,h=>⟨Lc (zA h).1,cy (zA h).2⟩

variable{after2:Array Edge}{d2 id' :Nat}{pos2:String}{tl:List α}{ty2:TypeId}
section
variable{l:List Oper}{ty:TypeId}{t:Ty}
def s(h:cI E O G ⟨some aR,op,ty,pos,after,none⟩ t)(k:RG E ops aK l O ((aR,t)::G))(hd:Nat.blt aR E.N.n=true:=by exact rfl):
  RG E ops aK (⟨some aR,op,ty,pos,after,none⟩::l) O G:=vz h hd k
def dH{x:α}{p:Nat}(ti:TI E.P U sz bytes agg z)(hp:uD E.N.n aR (cC G p)=some (ck r x))(k:RG E ops aK l O ((aR,tD r x)::G))(hs:(r.sz,r.agg)=(sz,agg):=by exact rfl):RG E ops aK (⟨some aR,.load U (.tmp p),ty,pos,after,none⟩::l) O G:=zo (dm hp).1 (yT ti (dm hp).2 hs) k
def qE{get:α->β}{x:α}{i:Nat}{p:Nat}(hf:bZ E.P T i=some (off,sz))(hq:md r off q get)(hp:uD E.N.n aR (cC G p)=some (ck r x))(k:RG E ops aK l O ((aR,ck q (get x))::G))(h0:(!(Nat.beq sz 0)&&Nat.ble (off+q.sz) r.sz)=true:=by exact rfl):
  RG E ops aK (⟨some aR,.fieldAddr T (.tmp p) i,ty,pos,after,none⟩::l) O G:=zo (dm hp).1 (oq hf hq (dm hp).2 h0) k
def aQ{get:α->β}{x:α}{i s2:Nat}{p p2:Nat}(hf:bZ E.P T i=some (off,sz))(hq:md r off q get)(ti:TI E.P U s2 bytes agg z)(hp:uD E.N.n aR (cC G p)=some (ck r x))(k:RG E ops aK l O ((d2,tD q (get x))::(aR,ck q (get x))::G))(h0:(!(Nat.beq sz 0)&&Nat.ble (off+q.sz) r.sz)=true:=by exact rfl)(hp2:uD E.N.n d2 (cC ((aR,ck q (get x))::G) p2)=some (ck q (get x)):=by exact rfl)(hs:(q.sz,q.agg)=(s2,agg):=by exact rfl):
  RG E ops aK (⟨some aR,.fieldAddr T (.tmp p) i,ty,pos,after,none⟩::⟨some d2,.load U (.tmp p2),ty2,pos2,after2,none⟩::l) O G:=qE hf hq hp (dH ti hp2 k hs) h0
def bh{i o:Nat}{p:Nat}(n:Nat)(hf:bZ E.P T i=some (off,sz))(hp:uD E.N.n aR (cC G p)=some (M (Z b o)))(k:RG E ops aK l O ((aR,M (Z b n))::G))(h0:Nat.beq sz 0=false:=by exact rfl)(he:o+off=n:=by exact rfl):RG E ops aK (⟨some aR,.fieldAddr T (.tmp p) i,ty,pos,after,none⟩::l) O G:=zo (dm hp).1 (q9 n hf h0 (dm hp).2 he) k
def dz{i:Nat}(V:uD E.N.n aR (cC G x)=some (tT ts))(hi:ts[i]? =some t)(k:RG E ops aK l O ((aR,t)::G)):RG E ops aK (⟨some aR,.extract (.tmp x) i,ty,pos,after,none⟩::l) O G:=zo (dm V).1 (Jd hi (dm V).2) k
def ca{n:Int}(k:RG E ops aK l O ((aR,tD (rI j) n)::G))(hd:Nat.blt aR E.N.n=true:=by exact rfl):RG E ops aK (⟨some aR,.assign (.const (.int j n)),ty,pos,after,none⟩::l) O G:=zo hd zai k
def bm{b:Bool}(k:RG E ops aK l O ((aR,tD rB b)::G))(hd:Nat.blt aR E.N.n=true:=by exact rfl):RG E ops aK (⟨some aR,.assign (.const (.bool b)),ty,pos,after,none⟩::l) O G:=zo hd zab k
def bI(hu:E.P.underlying st=some (.slice e))(V:uD E.N.n aR (cC G x)=some (tD (f6 r) xs))(k:RG E ops aK l O ((aR,tD (rI .i64) (xs.length:Int))::G)):
  RG E ops aK (⟨some aR,.call ⟨.builtin .len,#[.tmp x],#[st]⟩,ty,pos,after,none⟩::l) O G:=zo (dm V).1 (ST hu (dm V).2) k
def dl{v:α}(V:uD E.N.n aR (cC G x)=some (tD r v))(k:RG E ops aK l O ((aR,ck r v)::G)):RG E ops aK (⟨some aR,.box T (.tmp x),ty,pos,after,none⟩::l) O G:=zo (dm V).1 (zbx (dm V).2) k
def cm{b q:Bool}(h:(uD E.N.n aR (cC G c),cC G x)=(some (tD rB b),some (qg b (tD rB q))))(k:RG E ops aK l O ((aR,tD rB (b&&q))::G)):
  RG E ops aK (⟨some aR,.pick (.tmp c) (.tmp x) (.const (.bool false)),ty,pos,after,none⟩::l) O G:=zo (xp h).1 (PR (xp h).2.1 (xp h).2.2) k
def dG{b q:Bool}(h:(uD E.N.n aR (cC G c),cC G x)=(some (tD rB b),some (qg (!b) (tD rB q))))(k:RG E ops aK l O ((aR,tD rB (b||q))::G)):
  RG E ops aK (⟨some aR,.pick (.tmp c) (.const (.bool true)) (.tmp x),ty,pos,after,none⟩::l) O G:=zo (xp h).1 (YQ (xp h).2.1 (xp h).2.2) k
section
variable{y:Nat}{m n:Int}
def jC(h:(uD E.N.n aR (cC G x),cC G y)=(some (tD (rI j) m),some (tD (rI j) n)))(k:RG E ops aK l O ((aR,tD rB (decide (m<n)))::G)):
  RG E ops aK (⟨some aR,.binOp .lss xt (.tmp x) (.tmp y) yt,ty,pos,after,none⟩::l) O G:=zo (xp h).1 (zlt (xp h).2.1 (xp h).2.2) k
def bp(V:uD E.N.n aR (cC G x)=some (tD (rI j) m))(k:RG E ops aK l O ((aR,tD rB (m==n))::G)):RG E ops aK (⟨some aR,.binOp .eql xt (.tmp x) (.const (.int j n)) yt,ty,pos,after,none⟩::l) O G:=zo (dm V).1 (YS (dm V).2) k
def nP(V:uD E.N.n aR (cC G x)=some (tD (rI j) m))(k:RG E ops aK l O ((aR,tD rB (m !=n))::G)):RG E ops aK (⟨some aR,.binOp .neq xt (.tmp x) (.const (.int j n)) yt,ty,pos,after,none⟩::l) O G:=zo (dm V).1 (zni (dm V).2) k
def gQ{c:Bool}(V:cC G x=some (qg c (tD (rI j) m)))(hc:c=true):cI E O G ⟨dst,.binOp .eql xt (.tmp x) (.const (.int j n)) yt,ty,pos,after,g⟩ (tD rB (m==n)):=di (bl V hc) hI
def se{c:Bool}(V:cC G x=some (qg c (tD (rI j) m)))(hc:c=true):cI E O G ⟨dst,.binOp .neq xt (.tmp x) (.const (.int j n)) yt,ty,pos,after,g⟩ (tD rB (m !=n)):=du (bl V hc) hI
def ez{i a id:Nat}{z w:Code}(V:xs.drop i=[])(h:(uD E.N.n aR (cC G a),cC G b)=(some (tD (rI .i64) (i:Int)),some (tD (rI .i64) (xs.length:Int))))(k:AT E aK .normal O ((aR,tD rB (decide ((i:Int)<(xs.length:Int))))::G))(hc:cC ((aR,tD rB (decide ((i:Int)<(xs.length:Int))))::G) c=some (tD rB (decide ((i:Int)<(xs.length:Int)))):=by exact rfl):
  LG E (Exit.inBlock id aK) (.seq (.region id' [⟨some aR,.binOp .lss xt (.tmp a) (.tmp b) yt,ty,pos,after,none⟩].toArray false) (.seq (.cond (.tmp c) z (.exit id)) w)) O G:=
 cJ<|d<|jC h<|bu<|aP<|yS (D hc) (Sa V)<|cQ<|ap (ap (bL k))
def ew{e:α}{i a:Nat}{z w:Code}(V:xs.drop i=e::tl)(h:(uD E.N.n aR (cC G a),cC G b)=(some (tD (rI .i64) (i:Int)),some (tD (rI .i64) (xs.length:Int))))(k:CG E (Exit.then (yn E.r E.P (.seq (.region id' [⟨some aR,.binOp .lss xt (.tmp a) (.tmp b) yt,ty,pos,after,none⟩].toArray false) (.seq (.cond (.tmp c) .skip z) w)) aK) aK) w O ((aR,tD rB (decide ((i:Int)<(xs.length:Int))))::G))(hc:cC ((aR,tD rB (decide ((i:Int)<(xs.length:Int))))::G) c=some (tD rB (decide ((i:Int)<(xs.length:Int)))):=by exact rfl):
  LG E aK (.seq (.region id' [⟨some aR,.binOp .lss xt (.tmp a) (.tmp b) yt,ty,pos,after,none⟩].toArray false) (.seq (.cond (.tmp c) .skip z) w)) O G:=
 cJ<|d<|jC h<|bu<|aP<|yR (D hc) (NL V)<|fN k
end
def CT{y:α}{i:Int}(hu:E.P.underlying st=some (.slice e))(ti:TI E.P e sz bytes agg z)(h:(uD E.N.n aR (cC G x),cC G ix)=(some (tD (f6 r) xs),some (tD (rI j) i)))(hy:gB xs i=some y)(k:RG E ops aK l O ((aR,ck r y)::G))(hsz:r.sz=sz:=by exact rfl):
  RG E ops aK (⟨some aR,.indexAddr st (.tmp x) (.tmp ix),ty,pos,after,none⟩::l) O G:=zo (xp h).1 (B3 hu ti hsz (xp h).2.1 (xp h).2.2 hy) k
def dg{y:α}{i:Int}{p2:Nat}(hu:E.P.underlying st=some (.slice e))(ti:TI E.P e sz bytes agg z)(h:(uD E.N.n aR (cC G x),cC G ix)=(some (tD (f6 r) xs),some (tD (rI j) i)))(hy:gB xs i=some y)(k:RG E ops aK l O ((d2,tD r y)::(aR,ck r y)::G))(hsz:r.sz=sz:=by exact rfl)(hp2:uD E.N.n d2 (cC ((aR,ck r y)::G) p2)=some (ck r y):=by exact rfl)(hs:(r.sz,r.agg)=(sz,agg):=by exact rfl):
  RG E ops aK (⟨some aR,.indexAddr st (.tmp x) (.tmp ix),ty,pos,after,none⟩::⟨some d2,.load e (.tmp p2),ty2,pos2,after2,none⟩::l) O G:=CT hu ti h hy (dH ti hp2 k hs) hsz
def bO{x:α}{y:β}{p v:Nat}{ty:TypeId}(ti:TI E.P U sz bytes agg z)(hset:gg r off q set)(h:(cC G p,cC G v)=(some (M (Z b off)),some (tD q y)))(k:RG E ops aK l (bx r T b (set x y)::O) G)(hsz:q.sz=sz:=by exact rfl)(hoff:Nat.ble (off+q.sz) r.sz=true:=by exact rfl):
  RG E ops aK (⟨none,.store U (.tmp p) (.tmp v),ty,pos,after,none⟩::l) (bx r T b x::O) G:=ek ti hsz hset hoff (D (wE h).1) (D (wE h).2) k
def MS(n:Nat)(ops:Array Oper)(aR j:Nat)(G:mV):Option Ty:=((ops[j]?).bind (·.dst)).bind fun gs=>uD n gs (uD n aR (cC G gs))
def D0{aR j:Nat}{ops:Array Oper}{t:Ty}(h:MS n ops aR j G=some t): ∃gs,(ops[j]?).bind (·.dst)=some gs/\uD n gs (uD n aR (cC G gs))=some t:=by
 unfold MS at h
 cases Y:(ops[j]?).bind (·.dst)with
 |none=>rw [Y]at h;cases h
 |some gs=>rw [Y]at h;exact⟨gs,rfl,h⟩
def ae{j:Nat}{b:Bool}(Y:MS E.N.n ops aR j G=some (tD rB b))(h:b=true->cI E O G ⟨some aR,op,ty,pos,after,some (j,true)⟩ t)(k:RG E ops aK l O ((aR,qg b t)::G)):
  RG E ops aK (⟨some aR,op,ty,pos,after,some (j,true)⟩::l) O G:=by obtain⟨gs,X,K⟩:=D0 Y;exact zgt X K h k
def aD{j:Nat}{b:Bool}(Y:MS E.N.n ops aR j G=some (tD rB b))(h:(!b)=true->cI E O G ⟨some aR,op,ty,pos,after,some (j,false)⟩ t)(k:RG E ops aK l O ((aR,qg (!b) t)::G)):
  RG E ops aK (⟨some aR,op,ty,pos,after,some (j,false)⟩::l) O G:=by obtain⟨gs,X,K⟩:=D0 Y;exact zgf X K h k
section
variable{c:Bool}
def bq{x:α}{p:Nat}(ti:TI E.P U sz bytes agg z)(hp:cC G p=some (qg c (ck r x)))(hs:(r.sz,r.agg)=(sz,agg))(hc:c=true):
  cI E O G ⟨dst,.load U (.tmp p),ty,pos,after,g⟩ (tD r x):=ej ti (wE hs).1 (wE hs).2 (bl hp hc)
def bv{get:α->β}{x:α}{i:Nat}{p:Nat}(hf:bZ E.P T i=some (off,sz))(hq:md r off q get)(hp:cC G p=some (ck r x))(h0:(!(Nat.beq sz 0)&&Nat.ble (off+q.sz) r.sz)=true)(_:c=true):cI E O G ⟨dst,.fieldAddr T (.tmp p) i,ty,pos,after,g⟩ (ck q (get x)):=oq hf hq hp h0
def bX(V:cC G x=some t)(_:c=true):cI E O G ⟨dst,.move (.tmp x),ty,pos,after,g⟩ t:=mt V
def nQ(V:cC G x=some (qg c t))(hc:c=true):cI E O G ⟨dst,.move (.tmp x),ty,pos,after,g⟩ t:=bT (bl V hc)
def gp(hu:E.P.underlying st=some (.slice e))(V:cC G x=some (qg c (tD (f6 r) xs)))(hc:c=true):
  cI E O G ⟨dst,.call ⟨.builtin .len,#[.tmp x],#[st]⟩,ty,pos,after,g⟩ (tD (rI .i64) (xs.length:Int)):=eS hu (bl V hc)
def uo{b:Bool}(V:cC G x=some (qg c (tD rB b)))(hc:c=true):cI E O G ⟨dst,.unOp .not xt (.tmp x),ty,pos,after,g⟩ (tD rB (!b)):=fG (bl V hc)
end
def aN(h:uD E.N.n aR (cC G x)=some t)(k:CG E aK y O ((aR,t)::G)):RG E ops (Exit.then (y.wpIn (fw E.r) 0 E.P aK) aK) [⟨some aR,.assign (.tmp x),ty,pos,after,none⟩] O G:=d6 h (bu k)
def bM(h:AT E aK .ret O G):RG E ops (Exit.then (Code.ret.wpIn (fw E.r) 0 E.P aK) aK) [] O G:=bu (pd h)
def bf(h:uD E.N.n aR (cC G x)=some t)(k:AT E aK .ret O ((aR,t)::G)):RG E ops (Exit.then (Code.ret.wpIn (fw E.r) 0 E.P aK) aK) [⟨some aR,.assign (.tmp x),ty,pos,after,none⟩] O G:=d6 h (bM k)
def aS{id:Nat}{z:Code}(h:RG E l.toArray (Exit.then (y.wpIn (fw E.r) 0 E.P (Exit.then (z.wpIn (fw E.r) 0 E.P aK) aK)) (Exit.then (z.wpIn (fw E.r) 0 E.P aK) aK)) l O G):CG E aK (.seq (.seq (.region id l.toArray false) y) z) O G:=aP (d h)
def ax{id:Nat}(h:uD E.N.n aR (cC G x)=some t)(k:RG E ((⟨some aR,.move (.tmp x),ty,pos,after,none⟩::l).toArray) (Exit.then (y.wpIn (fw E.r) 0 E.P aK) aK) l O ((aR,t)::G)):
  CG E aK (.seq (.region id (⟨some aR,.move (.tmp x),ty,pos,after,none⟩::l).toArray false) y) O G:=d (Q h k)
def eE{α β:Type _}{a:Option α}{f:α->Option β}{R:β}{xs:List Operand}{u:α->Ty}(h:a.bind f=some R)(hc:ah E.P fid=true)(hs: ∀{y},a=some y->cX E.P fid ts (u y))(V:lv E.N G xs ts)(k: ∀y,f y=some R->RG E ops aK l O ((aR,u y)::G))(hd:Nat.blt aR E.N.n=true:=by exact rfl):RG E ops aK (⟨some aR,.call ⟨.value (.func fid),xs.toArray,ats⟩,ty,pos,after,none⟩::l) O G:=
 bR h fun y hy h=>vz (cD hc (hs hy) V) hd (k y h)
def ot{α β:Type _}{γ:Type}{a:Option α}{f:α->Option β}{R:β}{r:Rp γ}{zs:α->List γ}{xs:List Operand}(h:a.bind f=some R)(hc:ah E.P fid=true)(hs: ∀{y},a=some y->gm E.P fid ts false r T (zs y))(V:lv E.N G xs ts)(k: ∀y,f y=some R-> ∀b cap,RG E ops aK l (db r T b cap (zs y)::O) ((aR,M (ay b cap (zs y).length))::G))(hd:Nat.blt aR E.N.n=true:=by exact rfl):
  RG E ops aK (⟨some aR,.call ⟨.value (.func fid),xs.toArray,ats⟩,ty,pos,after,none⟩::l) O G:=bR h fun y hy h=>SE hc (hs hy) V hd (k y h)
def dd{e:α}{i a id:Nat}(V:xs.drop i=e::tl)(hN:xs.length<=maxLen)(h:uD E.N.n aR (cC G a)=some (tD (rI .i64) (i:Int)))(k:AT E aK .normal O ((d2,tD (rI .i64) ((i+1:Nat):Int))::(aR,tD (rI .i64) ((i+1:Nat):Int))::G))(K:uD E.N.n d2 (cC ((aR,tD (rI .i64) ((i+1:Nat):Int))::G) b)=some (tD (rI .i64) ((i+1:Nat):Int)):=by exact rfl):
  AT E (Exit.inBlock id (Exit.then ((Code.region id' [⟨some aR,.binOp .add xt (.tmp a) (.const (.int .i64 1)) yt,ty,pos,after,none⟩,⟨some d2,.move (.tmp b),ty2,pos2,after2,none⟩].toArray false).wpIn (fw E.r) 0 E.P aK) aK)) .normal O G:=
 al<|au<|aj<|zo (dm h).1 (zin (VQ V hN) (dm h).2)<|Q K<|aJ k
def MR{e:α}{i a b2 d3 id:Nat}{ty3:TypeId}{pos3:String}{after3:Array Edge}(V:xs.drop i=e::tl)(hN:xs.length<=maxLen)(h:uD E.N.n aR (cC G a)=some (tD (rI .i64) (i:Int)))(k:AT E aK .normal O ((d3,tD (rI .i64) ((i+1:Nat):Int))::(d2,tD (rI .i64) ((i+1:Nat):Int))::(aR,tD (rI .i64) (i:Int))::G))(X:uD E.N.n d2 (cC ((aR,tD (rI .i64) (i:Int))::G) b)=some (tD (rI .i64) (i:Int)):=by exact rfl)(K:uD E.N.n d3 (cC ((d2,tD (rI .i64) ((i+1:Nat):Int))::(aR,tD (rI .i64) (i:Int))::G) b2)=some (tD (rI .i64) ((i+1:Nat):Int)):=by exact rfl):
  AT E (Exit.inBlock id (Exit.then ((Code.region id' [⟨some aR,.move (.tmp a),ty,pos,after,none⟩,⟨some d2,.binOp .add xt (.tmp b) (.const (.int .i64 1)) yt,ty2,pos2,after2,none⟩,⟨some d3,.assign (.tmp b2),ty3,pos3,after3,none⟩].toArray false).wpIn (fw E.r) 0 E.P aK) aK)) .normal O G:=
 al<|au<|aj<|Q h<|zo (dm X).1 (zin (VQ V hN) (dm X).2)<|d6 K<|aJ k
section
variable{e:α}{i a p q1 q2 d3 d4 id:Nat}{ty3 ty4 u:TypeId}{pos3 pos4:String}{after3 after4:Array Edge}{z w:Code}
def Vv(i:Nat)(r:Rp α)(xs:List α)(aR d2 d3 d4:Nat)(G:mV):mV:=(d4,tD rB (decide ((i:Int)<(xs.length:Int))))::(d3,tD (rI .i64) (xs.length:Int))::(d2,tD (f6 r) xs)::(aR,tD (rI .i64) (i:Int))::G
def Qi(hu:E.P.underlying st=some (.slice u))(V:xs.drop i=[])(h:(uD E.N.n aR (cC G a),uD E.N.n d2 (cC ((aR,tD (rI .i64) (i:Int))::G) b))=(some (tD (rI .i64) (i:Int)),some (tD (f6 r) xs)))
    (k:AT E aK .normal O ((d4,tD rB (decide ((i:Int)<(xs.length:Int))))::(d3,tD (rI .i64) (xs.length:Int))::(d2,tD (f6 r) xs)::(aR,tD (rI .i64) (i:Int))::G))
    (H:(uD E.N.n d3 (cC ((d2,tD (f6 r) xs)::(aR,tD (rI .i64) (i:Int))::G) p),uD E.N.n d4 (cC ((d3,tD (rI .i64) (xs.length:Int))::(d2,tD (f6 r) xs)::(aR,tD (rI .i64) (i:Int))::G) q1),
      cC ((d3,tD (rI .i64) (xs.length:Int))::(d2,tD (f6 r) xs)::(aR,tD (rI .i64) (i:Int))::G) q2,cC (Vv i r xs aR d2 d3 d4 G) c)=(some (tD (f6 r) xs),some (tD (rI .i64) (i:Int)),some (tD (rI .i64) (xs.length:Int)),some (tD rB (decide ((i:Int)<(xs.length:Int))))):=by exact rfl):
    LG E (Exit.inBlock id aK) (.seq (.seq (.region id' [⟨some aR,.move (.tmp a),ty,pos,after,none⟩,⟨some d2,.move (.tmp b),ty2,pos2,after2,none⟩,⟨some d3,.call ⟨.builtin .len,#[.tmp p],#[st]⟩,ty3,pos3,after3,none⟩,⟨some d4,.binOp .lss xt (.tmp q1) (.tmp q2) yt,ty4,pos4,after4,none⟩].toArray false) (.cond (.tmp c) z (.exit id))) w) O G:=
  have h' :=wE h;have e1:=wE H;have e2:=wE e1.2;have e3:=wE e2.2
  cJ<|aP<|d<|Q h'.1<|Q h'.2<|bI hu e1.1<|zo (dm e2.1).1 (zlt (dm e2.1).2 e3.1)<|bu<|yS (D e3.2) (Sa V)<|cQ<|ap (ap (bL k))
def Qh(hu:E.P.underlying st=some (.slice u))(V:xs.drop i=e::tl)(h:(uD E.N.n aR (cC G a),uD E.N.n d2 (cC ((aR,tD (rI .i64) (i:Int))::G) b))=(some (tD (rI .i64) (i:Int)),some (tD (f6 r) xs)))
    (k:CG E (Exit.then (yn E.r E.P (.seq (.seq (.region id' [⟨some aR,.move (.tmp a),ty,pos,after,none⟩,⟨some d2,.move (.tmp b),ty2,pos2,after2,none⟩,⟨some d3,.call ⟨.builtin .len,#[.tmp p],#[st]⟩,ty3,pos3,after3,none⟩,⟨some d4,.binOp .lss xt (.tmp q1) (.tmp q2) yt,ty4,pos4,after4,none⟩].toArray false) (.cond (.tmp c) .skip z)) w) aK) aK) w O
      ((d4,tD rB (decide ((i:Int)<(xs.length:Int))))::(d3,tD (rI .i64) (xs.length:Int))::(d2,tD (f6 r) xs)::(aR,tD (rI .i64) (i:Int))::G))
    (H:(uD E.N.n d3 (cC ((d2,tD (f6 r) xs)::(aR,tD (rI .i64) (i:Int))::G) p),uD E.N.n d4 (cC ((d3,tD (rI .i64) (xs.length:Int))::(d2,tD (f6 r) xs)::(aR,tD (rI .i64) (i:Int))::G) q1),
      cC ((d3,tD (rI .i64) (xs.length:Int))::(d2,tD (f6 r) xs)::(aR,tD (rI .i64) (i:Int))::G) q2,cC (Vv i r xs aR d2 d3 d4 G) c)=(some (tD (f6 r) xs),some (tD (rI .i64) (i:Int)),some (tD (rI .i64) (xs.length:Int)),some (tD rB (decide ((i:Int)<(xs.length:Int))))):=by exact rfl):
    LG E aK (.seq (.seq (.region id' [⟨some aR,.move (.tmp a),ty,pos,after,none⟩,⟨some d2,.move (.tmp b),ty2,pos2,after2,none⟩,⟨some d3,.call ⟨.builtin .len,#[.tmp p],#[st]⟩,ty3,pos3,after3,none⟩,⟨some d4,.binOp .lss xt (.tmp q1) (.tmp q2) yt,ty4,pos4,after4,none⟩].toArray false) (.cond (.tmp c) .skip z)) w) O G:=
  have h' :=wE h;have e1:=wE H;have e2:=wE e1.2;have e3:=wE e2.2
  cJ<|aP<|d<|Q h'.1<|Q h'.2<|bI hu e1.1<|zo (dm e2.1).1 (zlt (dm e2.1).2 e3.1)<|bu<|yR (D e3.2) (NL V)<|fN k
end
end
section
variable{l:List Oper}{ty:TypeId}
def fO(r:Rp α)(k:RG E ops aK l O ((aR,tD (f6 r) [])::G))(hd:Nat.blt aR E.N.n=true:=by exact rfl):RG E ops aK (⟨some aR,.assign (.const (.slice none 0 0)),ty,pos,after,none⟩::l) O G:=zo hd (bU Pl) k
def bW{β:Type _}{h1 hg:Option β}{r:β}{x:Code}{b:Bool}(h:(if b=true then h1 else hg)=some r)(H:cC G c=some (tD rB b))(V:h1=some r->CG E aK x O G)(hy:hg=some r->CG E aK y O G):
  RG E ops (Exit.then ((Code.cond (.tmp c) x y).wpIn (fw E.r) 0 E.P aK) aK) [] O G:=bu (fy h H V hy)
def cx{id:Nat}{h2:Act->World->Prop}(h:AT E aK .ret O G):AT E (Exit.inBlock id (Exit.then h2 aK)) .ret O G:=CJ (af h)
def eg{n:Int}(k:AT E aK .ret O ((aR,tD (rI j) n)::G))(hd:Nat.blt aR E.N.n=true:=by exact rfl):RG E ops (Exit.then (Code.ret.wpIn (fw E.r) 0 E.P aK) aK) [⟨some aR,.assign (.const (.int j n)),ty,pos,after,none⟩] O G:=zo hd zai (bM k)
def dK{f:FuncId}{c:Code}{t:Ty}{N:Nat}(hf:P.funcs[f]? =some fn)(H:(fn.body,fn.ntmps,Nat.ble ts.length fn.ntmps)=(some c,N,true))(h: ∀{w0 S0},CG ⟨P,⟨N,[]⟩,uX,w0,S0,none⟩ (bodyPost P fn (KA ⟨P,⟨N,[]⟩,uX,w0,S0,none⟩ t)) c [] (zQ 0 ts)):cX P f ts t:=by
 obtain⟨X,K⟩:=wE H
 obtain⟨K,h3⟩:=wE K
 subst K
 exact cX.of hf X rfl h3 fun _ _=>h
section
variable{i:Nat}
def YU{G:mV}{k:Nat}{t:Ty}:cC ((k,t)::G) k=some t:=by simp [cC]
def fP(h:ts[i]? =some u)(hu:cC G x=some u)(H:([(⟨x,u,none⟩:Nd)].all (qA l ⟨dst,.move (.tmp x),ty,pos,after,g⟩ i)&&fv i ⟨dst,.move (.tmp x),ty,pos,after,g⟩&&g.isNone)=true:=by exact rfl):
  ∃(needs:List Nd) (t:Ty),ts[i]? =some t/\tn G ts needs/\(needs.all (qA l ⟨dst,.move (.tmp x),ty,pos,after,g⟩ i))=true/\fv i ⟨dst,.move (.tmp x),ty,pos,after,g⟩=true/\cw E O l.toArray (kf needs) ⟨dst,.move (.tmp x),ty,pos,after,g⟩ t:=
 zZ x h hu (mt YU) H
def lK{v:α}(j:Nat)(ti:TI E.P U sz bytes agg z)(h:ts[i]? =some (tD r v))(hu:ts[j]? =some (ck r v))(hs:(r.sz,r.agg)=(sz,agg):=by exact rfl)(H:([(⟨x,ck r v,some j⟩:Nd)].all (qA l ⟨dst,.load U (.tmp x),ty,pos,after,g⟩ i)&&fv i ⟨dst,.load U (.tmp x),ty,pos,after,g⟩&&g.isNone)=true:=by exact rfl):
  ∃(needs:List Nd) (t:Ty),ts[i]? =some t/\tn G ts needs/\(needs.all (qA l ⟨dst,.load U (.tmp x),ty,pos,after,g⟩ i))=true/\fv i ⟨dst,.load U (.tmp x),ty,pos,after,g⟩=true/\cw E O l.toArray (kf needs) ⟨dst,.load U (.tmp x),ty,pos,after,g⟩ t:=
 ff x j h hu (yT ti YU hs) H
end
end
end Go.Proofs.YtdohlidddcgfjaaGreat

