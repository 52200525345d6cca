import Derived.Test.YtdohlidddcgfjaaGreatFgV2
import Derived.Lib.Bytealg
import Derived.Maps.Range
import Derived.Laws.IdiomRangeMap
import Derived.Test.YtdohlidddcgfjaaGreatFgV1
import Derived.Laws.BytesString
import Derived.Below
import Derived.ProofKit
import Derived.OpenShut
import Derived.LaidMore
import Derived.Laws.Externs
set_option linter.all false
namespace Go.Proofs.YtdohlidddcgfjaaGreat
open Go
def AK(N:Nat):List Nat->List Oper->Bool
 |_,[]=>true
 |seen,o::rest=>match o.dst with
  |some d=>Nat.blt d N&& !(seen.any (Nat.beq d))&&AK N (d::seen) rest
  |none=>AK N seen rest
variable{N:Fr}{β:Type}{d:Nat}{j:IntKind}{o:Oper}{p:Operand}{q:Rp β}
def FG{N:Nat}(l:List Oper): ∀(seen:List Nat),AK N seen l=true->
  (∀o:Oper,o∈l-> ∀d,o.dst=some d->d<N/\d∉seen)/\ ∀(i j:Nat) (o p:Oper) (d:Nat),l[i]? =some o->l[j]? =some p->o.dst=some d->p.dst=some d->i=j:=by
 induction l with
 |nil=>exact fun _ _=>⟨fun _ h=>(by cases h),fun _ _ _ _ _ h=>(by simp at h)⟩
 |cons o l ih=>
  intro seen h;unfold AK at h
  cases hd:o.dst with
  |none=>
   rw [hd]at h;obtain⟨H,W⟩:=ih seen h;refine⟨fun q hq d hqd=>?_,fun i j p q d hi hj hp hq=>?_⟩
   ·rcases ll.1 hq with rfl|hq
    ·rw [hd]at hqd;cases hqd
    ·exact H q hq d hqd
   ·cases i with
    |zero=>simp at hi;subst hi;rw [hd]at hp;cases hp
    |succ i=>
     cases j with
     |zero=>simp at hj;subst hj;rw [hd]at hq;cases hq
     |succ j=>rw [W i j p q d (by simpa using hi) (by simpa using hj) hp hq]
  |some d0=>
   rw [hd]at h;simp only [nw,ye,Cn]at h;obtain⟨⟨g1,g2⟩,g3⟩:=h;obtain⟨H,W⟩:=ih (d0::seen) g3;have hns:d0∉seen:=fun hm=>by
    have:seen.any (Nat.beq d0)=true:=GK.2 ⟨d0,hm,Nat.beq_refl d0⟩;rw [this]at g2;cases g2
   refine⟨fun q hq d hqd=>?_,fun i j p q d hi hj hp hq=>?_⟩
   ·rcases ll.1 hq with rfl|hq
    ·rw [hd]at hqd;cases hqd;exact⟨g1,hns⟩
    ·obtain⟨k1,k2⟩:=H q hq d hqd;exact⟨k1,fun hm=>k2 (kX _ hm)⟩
   ·cases i with
    |zero=>
     cases j with
     |zero=>rfl
     |succ j=>
      simp at hi;subst hi;rw [hd]at hp;cases hp;exact absurd (jO ..) (H q (t7 (by simpa using hj)) d0 hq).2
    |succ i=>
     cases j with
     |zero=>
      simp at hj;subst hj;rw [hd]at hq;cases hq;exact absurd (jO ..) (H p (t7 (by simpa using hi)) d0 hp).2
     |succ j=>rw [W i j p q d (by simpa using hi) (by simpa using hj) hp hq]
def NN:List Oper->List Ty->ou->ou
 |o::l,t::ts,G=>match o.dst with
  |some d=>(d,t)::NN l ts G
  |none=>NN l ts G
 |_,_,G=>G
variable{G:ou}{e:TypeId}{k:IntKind}{t:Ty}{ts:List Ty}{u:Ty}
def Kg(l:List Oper): ∀(ts:List Ty) (k:Nat) (t:Ty),ts.length=l.length->cX (NN l ts G) k=some t->
  (∃(j:Nat) (o:Oper),l[j]? =some o/\o.dst=some k/\ts[j]? =some t)\/(cX G k=some t/\ ∀o:Oper,o∈l->o.dst≠some k):=by
 induction l with
 |nil=>
  intro ts k t hl h;have:ts=[]:=vM (by simpa using hl);subst this;exact .inr ⟨h,fun _ h=>(by cases h)⟩
 |cons o l ih=>
  intro ts k t hl h
  cases ts with
  |nil=>simp at hl
  |cons u ts=>
   unfold NN at h;have hl' :ts.length=l.length:=by simpa using hl
   have lift:((∃(j:Nat) (p:Oper),l[j]? =some p/\p.dst=some k/\ts[j]? =some t)\/(cX G k=some t/\ ∀p:Oper,p∈l->p.dst≠some k))->o.dst≠some k->
     (∃(j:Nat) (p:Oper),(o::l)[j]? =some p/\p.dst=some k/\(u::ts)[j]? =some t)\/(cX G k=some t/\ ∀p:Oper,p∈o::l->p.dst≠some k):=by
    rintro(⟨j,p,H,W,h3⟩|⟨H,W⟩) hne
    ·exact .inl ⟨j+1,p,by simpa using H,W,by simpa using h3⟩
    ·exact .inr ⟨H,fun p hp=>(ll.1 hp).elim (fun e=>by subst e;exact hne) (W p)⟩
   cases hd:o.dst with
   |none=>
    rw [hd]at h;exact lift (ih ts k t hl' h) (by rw [hd];exact fun e=>by cases e)
   |some d=>
    rw [hd]at h;simp only at h;unfold cX at h;by_cases V:Nat.beq d k=true
    ·rw [V]at h;have:=t8 V;subst this;have e:u=t:=by simpa using h
     subst e;exact .inl ⟨0,o,rfl,hd,rfl⟩
    ·rw [Dp]at V;rw [V]at h;refine lift (ih ts k t hl' h) ?_;rw [hd];intro e;have:d=k:=uK e;subst this;simp at V
abbrev TS:=List Nat×(List OI->Ty)
def TS.at(p:TS)(σ:Nat->OI):Ty:=p.2 (p.1.map σ)
def tc(t:Ty):TS:=([],fun _=>t)
def UT(Ss:List ((Nat->OI)->List OE))(c:Nat)(σ:Nat->OI):List OE:=match Ss[c]? with|some f=>f σ|none=>[]
structure NS where
 slot:Nat
 ty:(Nat->OI)->Ty
 src:Option Nat
def NS.at(n:NS)(σ:Nat->OI):Nd:=⟨n.slot,n.ty σ,n.src⟩
def aai(G:ou)(ts:List TS)(n:NS):Prop:=
 match n.src with
 |some j=> ∀σ,(ts[j]?).map (fun p=>p.at σ)=some (n.ty σ)
 |none=> ∀σ,cX G n.slot=some (n.ty σ)
def Ak(G:ou)(ts:List TS):List NS->Prop
 |[]=>True
 |n::l=>aai G ts n/\Ak G ts l
variable{n:Nat}
def Ak.mem{ts:List TS}: ∀{l:List NS},Ak G ts l-> ∀n∈l,aai G ts n
 |_::_,⟨h,_⟩,_,.head _=>h
 |_::_,⟨_,h⟩,_,.tail _ hm=>Ak.mem h _ hm
def Ag(l:List NS)(σ:Nat->OI):ou:=lg (l.map (·.at σ))
def XC(ts:List TS)(σ:Nat->OI):List Ty:=ts.map fun p=>p.at σ
def Uo(L:List Oper)(es:List Bool)(i:Nat)(p:TS):Bool:=p.1.all fun k=>(es[k]?).getD false&&(Nat.beq k i||qJ L L.length i k)
def aa3(L:List Oper)(es:List Bool)(i lo hi:Nat):Bool:=
 Nat.ble lo (jp es es.length)&&(List.range es.length).all fun k=> !((es[k]?).getD false)||((Nat.ble lo (jp es k)||qJ L L.length i k)&&(Nat.blt (jp es k) hi||qJ L L.length k i))
def DS(E:En)(G:ou)(L:List Oper)(ts:List TS)(Ss:List ((Nat->OI)->List OE))(es0:List Bool):Nat->Nat->List Oper->List Bool->Prop
 |_,_,[],_=>True
 |i,c,o::rest,false::es=>(∃(needs:List NS) (t:TS) (lo hi:Nat),ts[i]? =some t/\Ak G ts needs/\(needs.all fun n=>sH L o i (n.at fun _=>fe))=true/\gr i o=true/\Uo L es0 i t=true/\aa3 L es0 i lo hi=true/\o.dst.isSome=true/\
   ∀c σ,lo<=c->c<=hi->cr E (UT Ss c σ) L.toArray (Ag needs σ) o (t.at σ))/\DS E G L ts Ss es0 (i+1) c rest es
 |i,c,o::rest,true::es=>(∃(needs:List NS) (t:TS),ts[i]? =some t/\Ak G ts needs/\(needs.all fun n=>sH L o i (n.at fun _=>fe))=true/\gr i o=true/\Uo L es0 i t=true/\
   ∀σ,ma E L.toArray (UT Ss c σ) (Ag needs σ) o (fun x=>UT Ss (c+1) (Po σ i x)) (fun x=>t.at (Po σ i x)))/\DS E G L ts Ss es0 (i+1) (c+1) rest es
 |_,_,_::_,[]=>False
variable{E:En}{L:List Oper}{Ss:List ((Nat->OI)->List OE)}{c:Nat}{es:List Bool}{α:Type}{lo:Int}{r:Rp α}{x:Nat}{σ:Nat->OI}
def DS.get{ts:List TS}{es0:List Bool}: ∀(r:List Oper) (es:List Bool) (k c:Nat),DS E G L ts Ss es0 k c r es-> ∀(j:Nat) (o:Oper),r[j]? =some o->
    ∃e,es[j]? =some e/\ ∃(needs:List NS) (t:TS),ts[k+j]? =some t/\Ak G ts needs/\(needs.all fun n=>sH L o (k+j) (n.at fun _=>fe))=true/\gr (k+j) o=true/\Uo L es0 (k+j) t=true/\
      (match e with
       |false=>o.dst.isSome=true/\ ∃lo hi,aa3 L es0 (k+j) lo hi=true/\ ∀c σ,lo<=c->c<=hi->cr E (UT Ss c σ) L.toArray (Ag needs σ) o (t.at σ)
       |true=> ∀σ,ma E L.toArray (UT Ss (c+jp es j) σ) (Ag needs σ) o (fun x=>UT Ss (c+jp es j+1) (Po σ (k+j) x)) (fun x=>t.at (Po σ (k+j) x))):=by
  intro r
  induction r with
  |nil=>intro es k c _ j o h;simp at h
  |cons p r ih=>
    intro es k c h j o ho
    cases es with
    |nil=>exact h.elim
    |cons e es=>
      cases e with
      |false=>
        obtain⟨⟨needs,t,lo,hi,g1,g2,g3,g4,g5,g6,g7,g8⟩,W⟩:=h
        cases j with
        |zero=>
          simp at ho;subst ho;exact⟨false,rfl,needs,t,g1,g2,g3,g4,g5,g7,lo,hi,g6,g8⟩
        |succ j=>
          obtain⟨e',g1,g2⟩:=ih es (k+1) _ W j o (by simpa using ho);refine⟨e',by simpa using g1,?_⟩;rw [show k+1+j=k+(j+1)from by omega]at g2;have e1:c+jp (false::es) (j+1)=c+jp es j:=by simp [jp]
          rw [e1];exact g2
      |true=>
        obtain⟨H,W⟩:=h
        cases j with
        |zero=>
          simp at ho;subst ho;exact⟨true,rfl,H⟩
        |succ j=>
          obtain⟨e',g1,g2⟩:=ih es (k+1) _ W j o (by simpa using ho);refine⟨e',by simpa using g1,?_⟩;rw [show k+1+j=k+(j+1)from by omega]at g2;have e1:c+jp (true::es) (j+1)=c+1+jp es j:=by simp [jp];omega
          rw [e1];exact g2
structure DJS(E:En)(G:ou)(l:List Oper)(ts:List TS)(Ss:List ((Nat->OI)->List OE))(es:List Bool)(done:Array Bool)(a:Act)(w:World)(S:SH)(σ:Nat->OI)(c:Nat):Prop where
 ext:mi E.B E.w0 E.S0 w S
 sat:oF w S
 own:gm E.base E.B w S (UT Ss c σ)
 size:a.tmps.size=E.N.n
 defers:a.defers=E.N.ds
 dsz:done.size=l.length
 down: ∀j o,l[j]? =some o->done.getD j false=true-> ∀e∈o.after,Region.binds .any e=true->done.getD e.on false=true
 old: ∀k t,cX G k=some t->(∀j o,l[j]? =some o->done.getD j false=true->o.dst≠some k)->t.p S (a.tmps.getD k undef)
 new: ∀j o d p,l[j]? =some o->done.getD j false=true->o.dst=some d->ts[j]? =some p->(p.at σ).p S (a.tmps.getD d undef)
 deps: ∀j p,done.getD j false=true->ts[j]? =some p-> ∀k∈p.1,done.getD k false=true
 chain: ∀k,es[k]? =some true->(done.getD k false=true↔jp es k<c)
variable{S S' :SH}{a:Act}{b:Nat}{done:Array Bool}{f:α->Option β}{κ:Type}{m:List (κ×β)}{v:Value}{w w' :World}
section
variable{ts:List TS}
def DJS.need(h:DJS E G L ts Ss es done a w S σ c){i:Nat}(hi:L[i]? =some o)(hun:done.getD i true=false)(hwait: ∀e∈o.after,Region.binds .any e=true->done.getD e.on false=true){needs:List NS}(H:Ak G ts needs)(W:(needs.all fun n=>sH L o i (n.at fun _=>fe))=true):cD E.N S a (Ag needs σ):=by
 have hlt:i<done.size:=by rw [h.dsz];exact(vK.1 hi).1
 have hun' :done.getD i false=false:=by
  simp [hlt]at hun ⊢;exact hun
 refine⟨h.size,h.defers,?_⟩;have key: ∀n∈needs,(n.ty σ).p S (a.tmps.getD n.slot undef):=by
  intro n hn;have hs:=mI.1 W n hn;have ho:=H.mem n hn;unfold sH NS.at at hs;unfold aai at ho
  cases hsrc:n.src with
  |some j=>
   rw [hsrc]at hs ho;simp only [nw]at hs;obtain⟨hs1,hs2⟩:=hs
   cases hj:L[j]? with
   |none=>rw [hj]at hs1;cases hs1
   |some p=>
    rw [hj]at hs1
    cases hd:p.dst with
    |none=>simp only [hd]at hs1;cases hs1
    |some d=>
     simp only [hd]at hs1;have hd' :=t8 hs1;subst hd';have hdone:done.getD j false=true:=by
      unfold FE at hs2;obtain⟨e,he0,V⟩:=GK.1 hs2;have he:e∈o.after:=by simpa using he0
      simp only [nw]at V;have:=hwait e he V.2
      rwa [t8 V.1]at this
     have hm:=ho σ
     cases hf:ts[j]? with
     |none=>rw [hf]at hm;simp at hm
     |some f=>
      rw [hf]at hm;have e:f.at σ=n.ty σ:=by simpa using hm
      rw [<-e];exact h.new j p n.slot f hj hdone hd hf
  |none=>
   rw [hsrc]at hs ho;refine h.old _ _ (ho σ) fun j p hj hdone hd=>?_;have:=mI.1 hs p (t7 hj);simp only [hd,Nat.beq_refl,uc,ta]at this;unfold FE at this;obtain⟨e,he0,V⟩:=GK.1 this;have he:e∈p.after:=by simpa using he0
   simp only [nw]at V;have h3:=h.down j p hj hdone e he V.2;rw [t8 V.1]at h3;rw [h3]at hun';cases hun'
 clear H W;intro k t hk;unfold Ag at hk
 induction needs with
 |nil=>simp [lg,cX]at hk
 |cons n needs ih=>
  simp only [Jw]at hk;unfold lg cX at hk;by_cases V:Nat.beq n.slot k=true
  ·have hb' :Nat.beq (n.at σ).slot k=true:=V;rw [hb']at hk;have:=t8 V;subst this;have h9:some (n.at σ).ty=some t:=by simpa using hk
   have e:n.ty σ=t:=uK h9;rw [<-e];exact key n (jO ..)
  ·rw [Dp]at V;have hb' :Nat.beq (n.at σ).slot k=false:=V;rw [hb']at hk;exact ih (fun m hm=>key m (kX _ hm)) hk
def DJS.step{σ' :Nat->OI}{c' :Nat}(h:DJS E G L ts Ss es done a w S σ c){i:Nat}{p0:TS}{C:Nat->Prop}(hi:L[i]? =some o)(hdN: ∀d,o.dst=some d->d<E.N.n)(hs2: ∀d,o.dst=some d-> ∀j p,L[j]? =some p->done.getD j false=true->p.dst=some d->i=j)(hwait: ∀e∈o.after,Region.binds .any e=true->done.getD e.on false=true)(D:ts[i]? =some p0)(hun:done.getD i true=false)(hdep: ∀k∈p0.1,k=i\/done.getD k false=true)(hext:mi C w S w' S')(hC: ∀b,C b->E.base<=b\/E.B b)(hsat:oF w' S')(hown:gm E.base E.B w' S' (UT Ss c' σ'))(hσ: ∀k,k≠i->σ' k=σ k)(hv:(p0.at σ').p S' v)(hch: ∀k,es[k]? =some true->((done.setIfInBounds i true).getD k false=true↔jp es k<c')):
  DJS E G L ts Ss es (done.setIfInBounds i true) (a.put o.dst v) w' S' σ' c' :=by
 have hlt:i<done.size:=by rw [h.dsz];exact(vK.1 hi).1
 have hset: ∀j,(done.setIfInBounds i true).getD j false=true->j=i\/done.getD j false=true:=fun j hj=>by
  by_cases hij:i=j
  ·exact .inl hij.symm
  ·rw [z7 false hij]at hj;exact .inr hj
 have hseti:(done.setIfInBounds i true).getD i false=true:=by simp [hlt]
 have hun' :done.getD i false=false:=by simp [hlt]at hun ⊢;exact hun
 have hput: ∀k,(∀d,o.dst=some d->d≠k)->(a.put o.dst v).tmps.getD k undef=a.tmps.getD k undef:=fun k hk=>by
  cases hd:o.dst with
  |none=>rfl
  |some d=>
   have hda:d<a.tmps.size:=by rw [h.size];exact hdN d hd
   rw [xJ hda,bB (hk d hd)]
 refine⟨h.ext.step hext hC,hsat,hown,?_,?_,by simp [h.dsz],fun j p hj hdone e he V=>?_,fun k u hk hno=>?_,fun j p d' u hj hdone hd' hu=>?_,fun j u hj hu k hk=>?_,hch⟩
 ·cases o.dst with
  |none=>exact h.size
  |some d=>simp [Act.put,h.size]
 ·cases o.dst with
  |none=>exact h.defers
  |some d=>exact h.defers
 ·rcases hset j hdone with rfl|hj'
  ·rw [hi]at hj;have:o=p:=by simpa using hj
   subst this;exact B9 (hwait e he V)
  ·exact B9 (h.down j p hj hj' e he V)
 ·rw [hput k fun d hd e=>hno i o hi hseti (by rw [hd,e])];exact u.mono hext.keep (h.old k u hk fun j p hj hdone=>hno j p hj (B9 hdone))
 ·by_cases hij:j=i
  ·subst hij;rw [hi]at hj;have:o=p:=by simpa using hj
   subst this;have hda:d' <a.tmps.size:=by rw [h.size];exact hdN d' hd'
   rw [hd',xJ hda,bM rfl];rw [D]at hu;have:p0=u:=by simpa using hu
   subst this;exact hv
  ·have hj' :=(hset j hdone).resolve_left hij;rw [hput d' fun d hd e=>by subst e;exact hij (hs2 d hd j p hj hj' hd').symm];have e1:u.at σ' =u.at σ:=congrArg u.2 (MD fun k hk=>hσ k fun e=>by
     subst e;rw [h.deps j u hj' hu k hk]at hun';cases hun')
   rw [e1];exact Ty.mono _ hext.keep (h.new j p d' u hj hj' hd' hu)
 ·rcases hset j hj with rfl|hj'
  ·rw [D]at hu;have:p0=u:=by simpa using hu
   subst this;rcases hdep k hk with rfl|h'
   ·exact hseti
   ·exact B9 h'
  ·exact B9 (h.deps j u hj' hu k hk)
end
variable{tV:Exit->Act->World->Prop}
def MR{l t:List Oper}{ts:List TS}(hsl:AK E.N.n [] l=true)(hlen:ts.length=l.length)(hesl:es.length=l.length)(hd:DS E G (l++t) ts Ss es 0 0 l es)(hch:QY (l++t) es=true)(D:Cq (l++t) l.length t.length=true)(hQ: ∀a w S σ,St E (UT Ss (jp es es.length) σ) (NN l (XC ts σ) G) a w S->wpListIn (fw E.r) 0 E.P (l++t).toArray tV t a w):
  ∀(fuel:Nat) (done:Array Bool) (a:Act) (w:World) (S:SH) (σ:Nat->OI) (c:Nat),nZ done=fuel->(∀j,l.length<=j->done.getD j false=false)->c<=jp es es.length->DJS E G (l++t) ts Ss es done a w S σ c->wpAnyIn (fw E.r) 0 E.P .any (l++t).toArray tV fuel done a w:=by
 have hL1: ∀i o,i<l.length->(l++t)[i]? =some o->l[i]? =some o:=fun i o hi h=>by rwa [Ds hi]at h
 have hL2: ∀i o,l[i]? =some o->(l++t)[i]? =some o:=fun i o h=>by rw [Ds (vK.1 h).1];exact h
 have htail: ∀m o,l.length<=m->(l++t)[m]? =some o->zV (l++t) m=true/\gr m o=true:=fun m o hm ho=>by
  have hml:m<(l++t).length:=(vK.1 ho).1;rw [nY]at hml;unfold Cq at D;have:=mI.1 D (m-l.length) (by simp;omega);rw [show l.length+(m-l.length)=m from by omega,ho]at this;simp only [nw]at this;exact⟨this.1,this.2.1⟩
 have hget:=fun i o (hi:l[i]? =some o)=>DS.get l es 0 0 hd i o hi;have hedge: ∀i o,(l++t)[i]? =some o->gr i o=true:=fun i o hi=>by
  rcases pj i l.length with h|h
  ·obtain⟨_,_,_,_,_,_,_,h,_⟩:=hget i o (hL1 i o h hi);simpa using h
  ·exact(htail i o h hi).2
 obtain⟨hs1,hs2⟩:=FG l [] hsl;have fin: ∀fuel done a w S σ c,nZ done=fuel->(∀j,l.length<=j->done.getD j false=false)->c<=jp es es.length->DJS E G (l++t) ts Ss es done a w S σ c->(∀i,i<l.length->done.getD i false=true)->wpAnyIn (fw E.r) 0 E.P .any (l++t).toArray tV fuel done a w:=by
  intro fuel done a w S σ c hu hfree hcle h hall;have hcc:c=jp es es.length:=by
   rcases pj c (jp es es.length)with hlt|hge
   ·obtain⟨i,H,W,h3⟩:=zZ hlt;have:=(h.chain i W).1 (hall i (by omega));omega
   ·omega
  subst hcc;refine CP (n:=l.length) (fun m o hm ho=>(htail m o hm ho).1) hedge t l.length done fuel a w (kE _) (by simp) h.dsz (fun j hj=>⟨fun hjd=>?_,fun hlt=>hall j hlt⟩) hu
   (hQ a w S σ ⟨h.ext,h.sat,h.own,h.size,h.defers,fun j u hj=>?_⟩)
  ·rcases pj j l.length with h' |h'
   ·exact h'
   ·rw [hfree j h']at hjd;cases hjd
  ·rcases Kg l (XC ts σ) j u (by unfold XC;rw [Jx];exact hlen) hj with⟨i,o,H,W,h3⟩|⟨H,W⟩
   ·unfold XC at h3;rw [MC]at h3
    cases hf:ts[i]? with
    |none=>rw [hf]at h3;simp at h3
    |some f=>
     rw [hf]at h3;have e:f.at σ=u:=by simpa using h3
     rw [<-e];exact h.new i o j f (hL2 i o H) (hall i (vK.1 H).1) W hf
   ·refine h.old j u H fun i o ho hdn=>?_;rcases pj i l.length with h' |h'
    ·exact W o (t7 (hL1 i o h' ho))
    ·rw [hfree i h']at hdn;cases hdn
 have lower: ∀done a w S σ c i,(∀j,l.length<=j->done.getD j false=false)->DJS E G (l++t) ts Ss es done a w S σ c->i∈Region.ready .any (l++t).toArray done->l.length<=i-> ∀j,j<l.length->done.getD j false=true:=by
  intro done a w S σ c i hfree h hi hge j hj;obtain⟨hun,p,hp,hwait⟩:=wI.1 hi;have hp' :(l++t)[i]? =some p:=by simpa using hp
  have hcov:=(htail i p hge hp').1;unfold zV at hcov;have hre:=mI.1 hcov j (by simp;omega);exact i0 h.down _ i j (fun q hq e he V=>by
   have:q=p:=by rw [hp']at hq;simpa using hq.symm
   subst this;exact hwait e he V) hre
 have hchain: ∀i j,j<i->es[i]? =some true->es[j]? =some true->qJ (l++t) (l++t).length i j=true:=fun i j hij H W=>by
  unfold QY at hch;have hil:i<es.length:=(vK.1 H).1;have:=mI.1 (mI.1 hch i (by simpa using hil)) j (by simpa using hij);rw [H,W]at this;simpa using this
 intro fuel
 induction fuel with
 |zero=>
  intro done a w S σ c hu hfree hcle h;exact fin 0 done a w S σ c hu hfree hcle h fun i hi=>xv hu (by rw [h.dsz,nY];omega)
 |succ fuel ih=>
  intro done a w S σ c hu hfree hcle h;by_cases hall: ∀i,i<l.length->done.getD i false=true
  ·exact fin _ done a w S σ c hu hfree hcle h hall
  have hready0: ∀m i,i<m->i<l.length->Region.ready .any (l++t).toArray done=[]->done.getD i false=true:=by
   intro m
   induction m with
   |zero=>intro i h;omega
   |succ m ihm=>
    intro i him hil hr;have his:i<done.size:=by rw [h.dsz,nY];omega
    by_cases hdn:done.getD i true=true
    ·rw [<-rZ his];exact hdn
    ·exfalso;obtain⟨o,ho⟩: ∃o,(l++t)[i]? =some o:=⟨l[i],hL2 i _ (vp hil)⟩;have hmem:i∈Region.ready .any (l++t).toArray done:=by
      rw [wI];refine⟨by simpa using hdn,o,by simpa using ho,fun e he V=>?_⟩;have:=hedge i o ho;unfold gr at this;have:=mI.1 this e (by simpa using he);simp only [V,uc,ta,ye]at this;exact ihm e.on (by omega) (by omega) hr
     rw [hr]at hmem;cases hmem
  refine⟨fun hr=>absurd (fun i hi=>hready0 (i+1) i (by omega) hi hr) hall,fun i hi=>?_⟩;have hil:i<l.length:=by
   rcases pj i l.length with h' |h'
   ·exact h'
   ·exact absurd (lower done a w S σ c i hfree h hi h') hall
  obtain⟨hun,o,ho,hwait⟩:=wI.1 hi;have ho' :(l++t)[i]? =some o:=by simpa using ho
  have hol:=hL1 i o hil ho';obtain⟨e,he,needs,u,H,W,h3,_,h4,h5⟩:=hget i o hol;rw [yA]at H h3 h4;have hF:=h.need ho' hun hwait W h3;have his:i<done.size:=by rw [h.dsz,nY];omega
  have hun' :done.getD i false=false:=by rw [<-rZ his];exact hun
  have hu' :nZ (done.setIfInBounds i true)=fuel:=by have:=uN hun;omega
  have huq: ∀d,o.dst=some d-> ∀j p,(l++t)[j]? =some p->done.getD j false=true->p.dst=some d->i=j:=fun d hdd j p hj hjd hpd=>by
   rcases pj j l.length with h' |h'
   ·exact hs2 i j o p d hol (hL1 j p h' hj) hdd hpd
   ·rw [hfree j h']at hjd;cases hjd
  have hfree' : ∀j,l.length<=j->(done.setIfInBounds i true).getD j false=false:=fun j hj=>by
   rw [z7 false (by omega)];exact hfree j hj
  have hbl:E.base<=w.heap.size:=h.ext.size;have hwaits: ∀q,(l++t)[i]? =some q-> ∀e∈q.after,Region.binds .any e=true->done.getD e.on false=true:=fun q hq e he V=>by
   have:q=o:=by rw [ho']at hq;simpa using hq.symm
   subst this;exact hwait e he V
  have hdpp: ∀k∈u.1,k=i\/done.getD k false=true:=fun k hk=>by
   have:=mI.1 h4 k hk;simp only [nw,CK]at this;rcases this.2 with V|V
   ·exact .inl (t8 V)
   ·exact .inr (i0 h.down _ i k hwaits V)
  have hdNN: ∀d,o.dst=some d->d<E.N.n:=fun d hd=>(hs1 o (t7 hol) d hd).1;unfold wpOpIn;rw [ho];show if _ then _ else _
  cases e with
  |false=>
   simp only at h5;obtain⟨hdS,lo,hi',hwin,h5⟩:=h5;rw [yA]at hwin;obtain⟨d,hdd⟩:=Rr.1 hdS;have hdN:=(hs1 o (t7 hol) d hdd).1;unfold aa3 at hwin;rw [nw]at hwin;obtain⟨hw1,hw2⟩:=hwin;have hw1' :=vq hw1;have hwk: ∀k,es[k]? =some true->(Nat.ble lo (jp es k)=true\/qJ (l++t) (l++t).length i k=true)/\(Nat.blt (jp es k) hi' =true\/qJ (l++t) (l++t).length k i=true):=fun k hk=>by
    have hkl:k<es.length:=(vK.1 hk).1;have:=mI.1 hw2 k (by simpa using hkl);rw [hk]at this;simpa using this
   have hlo:lo<=c:=by
    rcases pj c lo with hlt|hge
    ·exfalso;obtain⟨k,hk1,hk2,hk3⟩:=zZ (es:=es) (c:=c) (k:=es.length) (by omega);rcases(hwk k hk2).1 with V|V
     ·have:=vq V;omega
     ·have:=(h.chain k hk2).1 (i0 h.down _ i k hwaits V);omega
    ·exact hge
   have hhi:c<=hi' :=by
    rcases pj hi' c with hlt|hge
    ·exfalso;obtain⟨k,hk1,hk2,hk3⟩:=zZ (es:=es) (c:=hi') (k:=es.length) (by omega);rcases(hwk k hk2).2 with V|V
     ·simp only [ye]at V;omega
     ·have hkd:done.getD k false=true:=(h.chain k hk2).2 (by omega);have:=i0 h.down _ k i (fun q hq e he V=>h.down k q hq hkd e he V) V;rw [this]at hun';cases hun'
    ·exact hge
   have h6:=h5 c σ hlo hhi a w S h.sat h.own hF;have hch' : ∀k,es[k]? =some true->((done.setIfInBounds i true).getD k false=true↔jp es k<c):=fun k hk=>by
    have hne:i≠k:=fun e=>by subst e;rw [he]at hk;cases hk
    rw [z7 false hne];exact h.chain k hk
   by_cases hw:Region.wanted o (yielded (l++t).toArray a.tmps)=true
   ·rw [bM hw]at h6 ⊢;refine nK (fun a' w' ⟨v,S',ha,K,hs,hv⟩=>?_) h6;subst ha;exact ih _ _ _ S' _ c hu' hfree' hcle (h.step ho' hdNN huq hwait H hun hdpp K (fun _ V=>V.elim) hs (h.own.ext0 K) (fun _ _=>rfl) hv hch')
   ·rw [bB hw]at h6 ⊢;exact⟨fun _ _=>trivial,ih _ _ _ S _ c hu' hfree' hcle (h.step ho' hdNN huq hwait H hun hdpp (mi.refl xM _ _) (fun _ V=>V.elim) h.sat h.own (fun _ _=>rfl) h6 hch')⟩
  |true=>
   simp only [yA]at h5;have hca:jp es i=c:=by
    have hn: ¬jp es i<c:=fun hlt=>by rw [(h.chain i he).2 hlt]at hun';cases hun'
    rcases pj c (jp es i)with hlt|hge
    ·exfalso;obtain⟨k,hk1,hk2,hk3⟩:=zZ hlt;have hkd:done.getD k false=true:=i0 h.down _ i k hwaits (hchain i k hk1 he hk2);have:=(h.chain k hk2).1 hkd;omega
    ·omega
   subst hca;have h6:=h5 σ a w S h.sat h.own hF hbl;have hch' : ∀k,es[k]? =some true->((done.setIfInBounds i true).getD k false=true↔jp es k<jp es i+1):=fun k hk=>by
    by_cases hik:i=k
    ·subst hik;constructor
     ·intro _;omega
     ·intro _;simp [his]
    ·rw [z7 false hik,h.chain k hk];constructor
     ·intro h;omega
     ·intro hlt;rcases pj i k with hlk|hlk
      ·have:=Iw hlk he;omega
      ·exact Iw (by omega) hk
   have hcle' :jp es i+1<=jp es es.length:=Iw (by omega) he;by_cases hw:Region.wanted o (yielded (l++t).toArray a.tmps)=true
   ·rw [bM hw]at h6 ⊢;refine nK (fun a' w' ⟨v,S',x,ha,K,hs,hown,hv⟩=>?_) h6;subst ha;exact ih _ _ _ S' _ _ hu' hfree' hcle' (h.step ho' hdNN huq hwait H hun hdpp K (fun b ⟨f,hf,V⟩=>(gm.mem h.own f hf).2 b V) hs hown (fun k hk=>KT σ x hk) hv hch')
   ·rw [bB hw]at h6 ⊢;obtain⟨x,hown,hv⟩:=h6;exact⟨fun _ _=>trivial,ih _ _ _ S _ _ hu' hfree' hcle' (h.step ho' hdNN huq hwait H hun hdpp (mi.refl xM _ _) (fun _ V=>V.elim) h.sat hown (fun k hk=>KT σ x hk) hv hch')⟩
variable{aO:List OE}{st:TypeId}
def jK{id:Nat}(m:Nat)(ts:List TS)(es:List Bool)(Ss:List ((Nat->OI)->List OE))(hO:Ss[0]? =some fun _=>aO)(hm:E.P.follows .mixedOrders=true)(hsl:AK E.N.n [] (L.take m)=true)(hlen:ts.length=(L.take m).length)(hesl:es.length=(L.take m).length)(hch:QY L es=true)(D:Cq L (L.take m).length (L.drop m).length=true)(hd:DS E G L ts Ss es 0 0 (L.take m) es)(k: ∀σ:Nat->OI,RG E L.toArray tV (L.drop m) (UT Ss (jp es es.length) σ) (NN (L.take m) (XC ts σ) G)):CG E tV (.region id L.toArray true) aO G:=fun a w S st=>by
 have hL:L=L.take m++L.drop m:=(vX m L).symm;generalize L.take m=l at hL hsl hlen hesl D hd k;generalize L.drop m=t at hL D k;subst hL;refine wpIn_region_any hm ?_;obtain⟨he,hs⟩:=Bw (w:=w) st.sat;have hO0:UT Ss 0 (fun _=>fe)=aO:=by unfold UT;rw [hO]
 refine MR hsl hlen hesl hd hch D (fun a w S σ st=>k σ a w S st) _ _ _ _ S (fun _=>fe) 0 ?_ (fun j _=>?_) (mT _)
  ⟨st.ext.step0 he,hs,by rw [hO0];exact st.own.ext0 he,st.facts.size,st.facts.defers,by simp,fun j o hj hdone=>?_,fun k t hk _=>st.facts.at_ k t hk,fun j o d t hj hdone=>?_,fun j p hdone=>?_,fun k _=>⟨fun hdone=>?_,fun h=>(by omega)⟩⟩
 ·unfold nZ;rw [Ro,Rj];simp
 ·simp [CL];split<;>rfl
 ·simp [CL]at hdone;split at hdone<;>simp at hdone
 ·simp [CL]at hdone;split at hdone<;>simp at hdone
 ·simp [CL]at hdone;split at hdone<;>simp at hdone
 ·simp [CL]at hdone;split at hdone<;>simp at hdone
def qv{p:Nat->(Nat->OI)->Prop}{lo:Nat}(h: ∀σ,p lo σ): ∀c σ,lo<=c->c<=lo->p c σ:=fun c σ H W=>by
 have:c=lo:=by omega
 subst this;exact h σ
def AD{p:Nat->(Nat->OI)->Prop}{lo hi:Nat}(h: ∀σ,p lo σ)(k: ∀c σ,lo+1<=c->c<=hi->p c σ): ∀c σ,lo<=c->c<=hi->p c σ:=fun c σ H W=>by
 by_cases e:c=lo
 ·subst e;exact h σ
 ·exact k c σ (by omega) W
variable{after:Array Edge}{g:Option (Nat×Bool)}{ok:α->Prop}{op:Op}{pos:String}{post:OI->List OE}
def Ih{ty:TypeId}(hnd: ∀c,op≠ .defer c)(h: ∀a w S,oF w S->gm E.base E.B w S aO->cD E.N S a G->E.base<=w.heap.size-> ∃w' S' x,(execOp a.eval ⟨none,op,ty,pos,after,g⟩).run E.P w= .ok .skip w' /\mi (Kl aO) w S w' S' /\oF w' S' /\gm E.base E.B w' S' (post x)):
  EffOK E aO G ⟨none,op,ty,pos,after,g⟩ post (fun _=>ER):=fun a w S hs ho hf V=>by
 obtain⟨w',S',x,H,W,h3,h4⟩:=h a w S hs ho hf V;refine⟨hnd,?_⟩;rw [H];exact⟨undef,S',x,rfl,W,h3,h4,trivial⟩
abbrev HL:=List (Nat×Value)
def FL:HL->Nat->Option Value
 |[],_=>none
 |p::hs,o=>bif Nat.beq p.1 o then some p.2 else FL hs o
def yQ: ∀{hs:HL} {o:Nat} {v:Value},FL hs o=some v->(o,v)∈hs
 |[],_,_,h=>by cases h
 |p::hs,o,v,h=>by
  unfold FL at h;by_cases V:Nat.beq p.1 o=true
  ·rw [V]at h;have e1:=t8 V;have e2:p.2=v:=uK h;subst e1 e2;exact jO ..
  ·rw [Dp]at V;rw [V]at h;exact kX _ (yQ h)
def rH{α:Type}(r:Rp α)(hs:HL):Rp α where
 sz:=r.sz
 agg:=r.agg
 rc:=fun S cs x=>r.rc S cs x/\ ∀p∈hs,cs[p.1]? =some p.2
 mono:=fun h k=>⟨r.mono h k.1,k.2⟩
 len:=fun k=>r.len k.1
 one:=fun k=>r.one k.1
 sc:=r.sc
variable{cs:List Value}{off:Nat}
def eF{hs:HL}{get:α->β}(h:lO r off q get):lO (rH r hs) off q get:=fun S cs x k=>h S cs x k.1
def Ur(h:cs[off]? =some v):(cs.drop off).take 1=[v]:=by
 have hlt:=(vK.1 h).1;rw [Ce hlt,(vK.1 h).2];rfl
def afW{hs:HL}(h:FL hs off=some v):lO (rH r hs) off rV (fun _=>v):=fun S cs x k=>by
 have H:=k.2 _ (yQ h);exact⟨Ur H,r.one k.1 v (t7 H)⟩
def HZ(z:List Value):HL->Prop
 |[]=>True
 |p::hs=>z[p.1]? =some p.2/\HZ z hs
variable{z:List Value}
def HZ.all: ∀{hs:HL},HZ z hs-> ∀p∈hs,z[p.1]? =some p.2
 |_::_,⟨h,_⟩,_,.head _=>h
 |_::_,⟨_,h⟩,_,.tail _ hm=>HZ.all h _ hm
def zH{x:α}{hs:HL}(h: ∀S,r.rc S z x)(k:HZ z hs): ∀S,(rH r hs).rc S z x:=fun S=>⟨h S,k.all⟩
def abz(hs:HL)(off sz:Nat):Bool:=hs.all fun p=>Nat.blt p.1 off||Nat.ble (off+sz) p.1
def HOK(hs:HL)(off sz:Nat)(v:Option Value):HL->Prop
 |[]=>True
 |p::l=>((v=some p.2/\p.1=off/\sz=1)\/(FL hs p.1=some p.2/\(Nat.blt p.1 off||Nat.ble (off+sz) p.1)=true))/\HOK hs off sz v l
variable{sz:Nat}
def HOK.all{hs:HL}{v:Option Value}: ∀{l:HL},HOK hs off sz v l-> ∀p∈l,(v=some p.2/\p.1=off/\sz=1)\/(FL hs p.1=some p.2/\(Nat.blt p.1 off||Nat.ble (off+sz) p.1)=true)
 |_::_,⟨h,_⟩,_,.head _=>h
 |_::_,⟨_,h⟩,_,.tail _ hm=>HOK.all h _ hm
def yc{ds:List Value}{k:Nat}(hl:ds.length=sz)(hoff:off+sz<=cs.length)(h:(Nat.blt k off||Nat.ble (off+sz) k)=true):(cs.take off++ds++cs.drop (off+sz))[k]? =cs[k]? :=by
 simp only [CK,ye,Nat.ble_eq]at h;have D:(cs.take off).length=off:=by simp;omega
 rcases h with h|h
 ·rw [Ds (by simp;omega),Ds (by omega),Cd h]
 ·rw [Ap (by simp;omega),zb];congr 1;simp only [nY,D,hl];omega
def WW{ds:List Value}(hd:ds=[v])(hoff:off+1<=cs.length):(cs.take off++ds++cs.drop (off+1))[off]? =some v:=by
 subst hd;have D:(cs.take off).length=off:=by simp;omega
 rw [Ds (by simp;omega),Ap (by omega),D,Aa];rfl
variable{set:α->β->α}{y:Code}
def lG{hs hs' :HL}{x:α}{y:β}(h:fd r off q set)(hk:HOK hs off q.sz none hs')(hoff:Nat.ble (off+q.sz) r.sz=true):sy (rH r hs) (rH r hs') off q x y (set x y):=fun S cs ds H W=>by
 refine⟨h S cs x ds y H.1 W,fun p hp=>?_⟩;rcases hk.all p hp with⟨e,_⟩|⟨g1,g2⟩
 ·cases e
 ·have hl:=r.len H.1;rw [yc (q.len W) (by have:=vq hoff;omega) g2];exact H.2 _ (yQ g1)
def Hd{hs:HL}(h:fd r off q set)(hk:abz hs off q.sz=true)(hoff:Nat.ble (off+q.sz) r.sz=true):fd (rH r hs) off q set:=fun S cs x ds y H W=>by
 refine⟨h S cs x ds y H.1 W,fun p hp=>?_⟩;have hl:=r.len H.1;rw [yc (q.len W) (by have:=vq hoff;omega) (mI.1 hk p hp)];exact H.2 _ hp
variable{T U:TypeId}{hb:MV β}{agg:Bool}{bytes cap:Nat}{dst:Option Tmp}{ops:Array Oper}{rest:List Oper}{xs:List α}
section
variable{c:Code}{e:Exit}
section
variable{ty:TypeId}
def f8{t:OI->Ty}(h:EffOK E aO G ⟨none,op,ty,pos,after,none⟩ post t)(k: ∀x,RG E ops tV rest (post x) G):RG E ops tV (⟨none,op,ty,pos,after,none⟩::rest) aO G:= .of rfl fun a w S st=>
 qn (fun a' w' ⟨v,S',x,ha,K,hs,ho,hv⟩=>by
  subst ha;exact k x _ _ S' ⟨st.ext.step K fun b ⟨f,hf,V⟩=>(gm.mem st.own f hf).2 b V,hs,ho,st.facts.mono K.keep⟩) (h a w S st.sat st.own st.facts st.base_le)
def cY{γ:Type}{r' :Rp γ}{x:α}{x' :γ}{y:β}{v:Operand}(ti:TI E.P U sz bytes agg z)(hsz:q.sz=sz)(hset:sy r r' off q x y x')(hoff:Nat.ble (off+q.sz) r.sz=true)(hp:bk E.N G p (Q (M b off)))(hv:bk E.N G v (tD q y)):EffOK E (s r T b x::aO) G ⟨none,.store U p v,ty,pos,after,g⟩ (fun _=>s r' T b x' ::aO) (fun _=>ER):=Ih (fun _ h=>(by cases h)) fun a w S hs ho hf V=>by
 have H:a.eval p=M b off:=hp S a hf;obtain⟨ds,W,h3⟩:=hv S a hf;obtain⟨⟨hno,cur,h5,h6⟩,_⟩:=ho.1;have hl:=r.len h6;have hoff' :=vq hoff;obtain⟨w',hr,e1,e2,e3,e4,e5,e6⟩:=lQ ti hsz h3 h5 (off:=off) (by simp at hl;omega);have hrun:(execOp a.eval ⟨none,.store U p v,ty,pos,after,g⟩).run E.P w= .ok .skip w' :=by
  simp [execOp,H,W,Instr.storeAt,M,Instr.sureAddr,hr]
 obtain⟨g1,g2,g3⟩:=qm (aO:=aO) hs (s r T b x) (s r' T b x') ho (fun _=>qW) (fun _=>qW) ⟨e1,e2,e3,e4.1,e4.2⟩ e6 ⟨hno,_,e5,by simpa using hset S _ _ h6 h3⟩ hno;exact⟨w',S,fe,hrun,g1.more fun k hk=>⟨_,jO ..,hk⟩,g2,g3⟩
def Dg{hs hs' :HL}{x:α}{y:β}{u:Value}{v:Operand}(ti:TI E.P U 1 bytes false z)(hsz:q.sz=1)(hag:q.agg=false)(hset:fd r off q set)(hoff:Nat.ble (off+1) r.sz=true)(hk:HOK hs off 1 (some u) hs')(hp:bk E.N G p (Q (M b off)))(hv:bk E.N G v (tD q y))(hu:bk E.N G v (Q u)):EffOK E (s (rH r hs) T b x::aO) G ⟨none,.store U p v,ty,pos,after,g⟩ (fun _=>s (rH r hs') T b (set x y)::aO) (fun _=>ER):=Ih (fun _ h=>(by cases h)) fun a w S hsat ho hf V=>by
 have H:a.eval p=M b off:=hp S a hf;obtain⟨ds,W,h3⟩:=hv S a hf;have hu' :a.eval v=u:=hu S a hf;obtain⟨⟨hno,cur,h5,h6⟩,_⟩:=ho.1;have hl:=r.len h6.1;have hoff' :=vq hoff;have hdl:=q.len h3;have hds:ds=[u]:=by
  obtain⟨d,hd⟩:=List.length_eq_one_iff.1 (by rw [hdl,hsz]:ds.length=1);subst hd;have e1:q.val [d]=d:=by simp [Rp.val,hag]
  rw [W,e1]at hu';rw [hu']
 obtain⟨w',hr,e1,e2,e3,e4,e5,e6⟩:=lQ ti hsz h3 h5 (off:=off) (by simp at hl;omega);have hrun:(execOp a.eval ⟨none,.store U p v,ty,pos,after,g⟩).run E.P w= .ok .skip w' :=by
  simp [execOp,H,W,Instr.storeAt,M,Instr.sureAddr,hr]
 rw [hsz]at e5;have hnew:(rH r hs').rc S (cur.toList.take off++ds++cur.toList.drop (off+1)) (set x y):=by
  have h7:=hset S _ _ _ _ h6.1 h3;rw [hsz]at h7;refine⟨h7,fun p hp=>?_⟩;rcases hk.all p hp with⟨f1,f2,_⟩|⟨f1,f2⟩
  ·rw [f2];exact WW (by rw [hds,uK f1]) (by omega)
  ·rw [yc (by rw [hdl,hsz]) (by omega) f2];exact h6.2 _ (yQ f1)
 obtain⟨g1,g2,g3⟩:=qm (aO:=aO) hsat (s (rH r hs) T b x) (s (rH r hs') T b (set x y)) ho (fun _=>qW) (fun _=>qW) ⟨e1,e2,e3,e4.1,e4.2⟩ e6 ⟨hno,_,e5,by simpa using hnew⟩ hno;exact⟨w',S,fe,hrun,g1.more fun k hk=>⟨_,jO ..,hk⟩,g2,g3⟩
end
section
variable{ty:TypeId}
def dR{hs:HL}{x:α}{u:Value}(ti:TI E.P U 1 bytes false z)(hk:FL hs off=some u)(hm:s (rH r hs) T b x∈aO)(hp:bk E.N G p (Q (M b off))):
  dw E aO G ⟨dst,.load U p,ty,pos,after,g⟩ (Q u):=(aA (q:=rV) ti rfl rfl (afW hk) hm hp).imp fun _ _ h=>(By.1 h).1
def A4{q:Rp α}{r:Rp β}{hs:HL}{x:β}{hb:TypeId}{l:Option Nat}(ti:TI E.P U 1 bytes false z)(hk:FL hs off=some (aI l cap xs.length))(hm:s (rH r hs) T b x∈aO)(hm2:lP q hb l cap xs∈aO)(hp:bk E.N G p (Q (M b off))):
  dw E aO G ⟨dst,.load U p,ty,pos,after,g⟩ (tO q l cap xs):=fun a w S hs' ho hf=>
 qn (fun _ _ ⟨v,S',H,W,h3,h4⟩=>⟨v,S',H,W,h3,h4,by
  have h5:v=aI l cap xs.length:=h4;rw [h5];exact pN (((ho.ext0 W).mem _ hm2).1)⟩) (dR (g:=g) (ty:=ty) (pos:=pos) (after:=after) (dst:=dst) ti hk hm hp a w S hs' ho hf)
def Yh{x:Operand}(H: ∀S v,t.p S v->v.oneCell' =true)(K:bk E.N G x t):dw E aO G ⟨dst,.box T x,ty,pos,after,g⟩ (da (rT t) ()):=
 VL (fun S a hf=>tRT.2 ⟨H _ _ (K S a hf),K S a hf⟩)
end
end
variable{O' :List OE}
def EffOK.perm{t:OI->Ty}(h:EffOK E O' G o post t)(k: ∀{w S},gm E.base E.B w S aO->gm E.base E.B w S O')(m: ∀f∈O',f∈aO):EffOK E aO G o post t:=fun a w S hs ho hf V=>
 qn (fun _ _ ⟨v,S',x,H,W,h3,h4,h5⟩=>⟨v,S',x,H,W.more fun _ ⟨f,hf,hk⟩=>⟨f,m f hf,hk⟩,h3,h4,h5⟩) (h a w S hs (k ho) hf V)
variable{x0 x1 x2 x3 x4 x5:OE}
namespace EffOK
section
variable{t:OI->Ty}
def fr1(h:EffOK E (x1::x0::aO) G o post t):EffOK E (x0::x1::aO) G o post t:=h.perm (fun hw=>gm.swap hw) (fun f hf=>by simp only [ll]at hf ⊢;rcases hf with h|h|h<;>simp [h])
def fr2(h:EffOK E (x2::x0::x1::aO) G o post t):EffOK E (x0::x1::x2::aO) G o post t:=h.perm (fun hw=>u6 hw) (fun f hf=>by simp only [ll]at hf ⊢;rcases hf with h|h|h|h<;>simp [h])
def fr3(h:EffOK E (x3::x0::x1::x2::aO) G o post t):EffOK E (x0::x1::x2::x3::aO) G o post t:=h.perm (fun hw=>xl hw) (fun f hf=>by simp only [ll]at hf ⊢;rcases hf with h|h|h|h|h<;>simp [h])
def fr4(h:EffOK E (x4::x0::x1::x2::x3::aO) G o post t):EffOK E (x0::x1::x2::x3::x4::aO) G o post t:=h.perm (fun hw=>xk hw) (fun f hf=>by simp only [ll]at hf ⊢;rcases hf with h|h|h|h|h|h<;>simp [h])
def fr5(h:EffOK E (x5::x0::x1::x2::x3::x4::aO) G o post t):EffOK E (x0::x1::x2::x3::x4::x5::aO) G o post t:=h.perm (fun hw=>xj hw) (fun f hf=>by simp only [ll]at hf ⊢;rcases hf with h|h|h|h|h|h|h<;>simp [h])
def fr6{x6:OE}(h:EffOK E (x6::x0::x1::x2::x3::x4::x5::aO) G o post t):EffOK E (x0::x1::x2::x3::x4::x5::x6::aO) G o post t:=h.perm (fun hw=>xi hw) (fun f hf=>by simp only [ll]at hf ⊢;rcases hf with h|h|h|h|h|h|h|h<;>simp [h])
def fr7{x6 x7:OE}(h:EffOK E (x7::x0::x1::x2::x3::x4::x5::x6::aO) G o post t):EffOK E (x0::x1::x2::x3::x4::x5::x6::x7::aO) G o post t:=h.perm (fun hw=>IE hw) (fun f hf=>by simp only [ll]at hf ⊢;rcases hf with h|h|h|h|h|h|h|h|h<;>simp [h])
def post_imp{post' :OI->List OE}(h:EffOK E aO G o post t)(k: ∀{w S x},gm E.base E.B w S (post x)->gm E.base E.B w S (post' x)):EffOK E aO G o post' t:=fun a w S hs ho hf V=>
 qn (fun _ _ ⟨v,S',x,H,W,h3,h4,h5⟩=>⟨v,S',x,H,W,h3,k h4,h5⟩) (h a w S hs ho hf V)
end
end EffOK
variable{A:Type}{P:Program}{args:A->List Ty}{ρ:Type}{res:ρ->Ty}
section
variable{ty:TypeId}
def QU{zs:List α}{y v:α}{i:Int}{x:Operand}(ti:TI E.P U sz bytes agg z)(hsz:r.sz=sz)(hy:gw xs i=some y)(hz:xs.set i.toNat v=zs)(hp:bk E.N G p (Q (M b (i.toNat*r.sz))))(hv:bk E.N G x (tD r v)):EffOK E (s (pP r n) T b xs::aO) G ⟨none,.store U p x,ty,pos,after,g⟩ (fun _=>s (pP r n) T b zs::aO) (fun _=>ER):=Ih (fun _ h=>(by cases h)) fun a w S hsat hown hf hbase=>by
 subst hz;have H:a.eval p=M b (i.toNat*r.sz):=hp S a hf;obtain⟨ds,W,h3⟩:=hv S a hf;obtain⟨⟨hno,cur,h5,h6⟩,_⟩:=hown.1;obtain⟨h0,hy'⟩:=pQ hy;have hlt:i.toNat<xs.length:=(vK.1 hy').1;have hl:=mv h6.2;simp only [Fz]at hl;have hmul:i.toNat*r.sz+r.sz<=xs.length*r.sz:=by rw [<-Nat.succ_mul];exact Dr _ hlt
 obtain⟨w',hr,e1,e2,e3,e4,e5,e6⟩:=lQ ti hsz h3 h5 (off:=i.toNat*r.sz) (by omega);have hrun:(execOp a.eval ⟨none,.store U p x,ty,pos,after,g⟩).run E.P w= .ok .skip w' :=by
  simp [execOp,H,W,Instr.storeAt,M,Instr.sureAddr,hr]
 obtain⟨g1,g2,g3⟩:=qm (aO:=aO) hsat (s (pP r n) T b xs) (s (pP r n) T b (xs.set i.toNat v)) hown (fun _=>qW) (fun _=>qW) ⟨e1,e2,e3,e4.1,e4.2⟩ e6 ⟨hno,_,e5,by rw [F3];exact h6.1,Gw h3 h6.2 hlt⟩ hno;exact⟨w',S,fe,hrun,g1.more fun c hc=>⟨_,jO ..,hc⟩,g2,g3⟩
section
def sn{x:α}(ti:TI E.P T sz bytes agg z)(K: ∀S,r.rc S z x):
  EffOK E aO G ⟨some d,.alloc T,ty,pos,after,g⟩ (fun i=>s r T (i.h 0).2 x::aO) (fun i=>Q (M (i.h 0).2 0)):=fun a w S hs ho hf V=>by
 obtain⟨zv,hzr,hzc⟩:=ti.zero w;obtain⟨he,hs',hno⟩:=mH (w:=w) (.cells z.toArray T (0,0)) hs;have hrun:(execOp a.eval ⟨some d,.alloc T,ty,pos,after,g⟩).run E.P w= .ok (.value (M w.heap.size 0)) (w.alloc (.cells z.toArray T (0,0))):=by
  simp [execOp,Instr.alloc,hzr,newVar,newRow,hzc,M]
 refine⟨fun c h=>(by cases h),?_⟩;rw [hrun];exact⟨_,S,oi none w.heap.size,rfl,he.more fun _ V=>V.elim,hs',xL ho he (e:=s r T w.heap.size x) ⟨hno,z.toArray,Ck w _,by simpa using K S⟩ (fun b V=>Fu V.symm) V,rfl⟩
end
section
def aL{x:Operand}(K:bk E.N G x (Q (M b off))):dw E aO G ⟨dst,.nilCheck x,ty,pos,after,g⟩ (Q (M b off)):= .of_pure fun a w S _ _ hf=>by
 have H:a.eval x=M b off:=K S a hf;exact⟨M b off,by simp [execOp,H,M],rfl⟩
def Yf{y:α}{x:Operand}(K:bk E.N G x (da r y)):dw E aO G ⟨dst,.nilCheck x,ty,pos,after,g⟩ (da r y):= .of_pure fun a w S _ _ hf=>by
 have h0:=K S a hf;obtain⟨b,off,c,U,fr,H,W,h3⟩:=h0;exact⟨_,by simp [execOp,H],b,off,c,U,fr,rfl,W,h3⟩
def iw{u:Value}(ti:TI E.P U 1 bytes false z)(hm:s rV T b u∈aO)(hp:bk E.N G p (Q (M b 0))):
  dw E aO G ⟨dst,.load U p,ty,pos,after,g⟩ (Q u):=(aA (q:=rV) (get:=fun x=>x) ti rfl rfl bm hm hp).imp fun _ _ h=>(By.1 h).1
def yN(ti:TI E.P U 1 bytes false z)(hp:bk E.N G p (da (rT t) ())):dw E aO G ⟨dst,.load U p,ty,pos,after,g⟩ t:=NX ti hp
end
def IB(h:aO=O')(k:RG E ops tV rest O' G):RG E ops tV rest aO G:=by subst h;exact k
def hW{x:Operand}{u:Value}(h:bk N G x (Q u))(ho:u.oneCell' =true):bk N G x (tD rV u):=fun S a hf=>By.2 ⟨h S a hf,ho⟩
def hTT{x:Operand}(H: ∀S v,t.p S v->v.oneCell' =true)(h:bk N G x t):bk N G x (tD (rT t) ()):=fun S a hf=>tRT.2 ⟨H _ _ (h S a hf),h S a hf⟩
def Ye{args:α->List Ty}{res:β->Ty}: ∀S v,(nL P args res f).p S v->v.oneCell' =true:=fun _ _ ⟨_,_,e,_⟩=>by rw [e];rfl
end
variable{mm:Bool}{ys:List α}
def M5{l:Option Nat}{t' e' :TypeId}(D:P.underlying t' =some (.slice e'))(h:Dj mm r U l cap xs w S)(hs:dr xs lo (xs.length:Int)=some ys):
  ∃news,Src P r.sz t' (qw r.sz l cap lo.toNat ys.length) ys.length news w/\uI r S news ys:=by
 obtain⟨cells,H,W,_⟩:=h;obtain⟨lo',m,rfl,hm,h3,h4,rfl⟩:=gR hs;have hm' :m=xs.length:=by omega
 subst hm';rw [EK,Cb]
 cases l with
 |none=>
  have K:xs=[]:=vM H.1;subst K;exact⟨[],by simpa [qw] using Src.ofNil w D 0,by simp [uI]⟩
 |some b=>
  obtain⟨cur,g1,g2,g3,g4,g5⟩:=H;have hlen:(xs.drop lo').length=xs.length-lo' :=by simp
  have hcl:=mv W;have hsp:xs=xs.take lo' ++xs.drop lo' :=(vX lo' xs).symm;have htl:(xs.take lo').length=lo' :=by simp;omega
  have hr:uI r S (cells.drop (lo' *r.sz)) (xs.drop lo'):=by
   rw [hsp]at W;have:=(tI W).2
   rwa [htl]at this
  have hmul:lo' *r.sz<=xs.length*r.sz:=Dr _ h3;refine⟨cells.drop (lo' *r.sz),?_,hr⟩;unfold qw;refine Src.ofSlice w D _ _ _ _ (mv hr) (fun j u hu=>?_) (BH hr);by_cases hc:cap=lo'
  ·have:xs.drop lo' =[]:=IV (by omega);rw [this]at hr;have hr' :cells.drop (lo' *r.sz)=[]:=hr;rw [hr']at hu;simp at hu
  ·simp only [hc,hX];rw [kL,zW g1];rw [zb,<-g5]at hu;have hj:lo' *r.sz+j<xs.length*r.sz:=by
    have:=(vK.1 hu).1;simp at this;omega
   rw [Cd hj]at hu;simpa using hu
variable{yt:TypeId}
section
variable{ty:TypeId}
def Uy{l:Option Nat}{x:Operand}{t:TypeId}(D:E.P.underlying t=some (.slice e))(hm:o5 mm r U l cap xs∈aO)(hs:dr xs lo (xs.length:Int)=some ys)(K:bk E.N G x (Q (qw r.sz l cap lo.toNat ys.length)))(hd:Nat.blt d E.N.n=true)(k: ∀b,(b=true->ys=[])->RG E ops tV rest aO ((d,tD rB b)::G)):RG E ops tV (⟨some d,.binOp .eql t x (.const (.slice none 0 0)) yt,ty,pos,after,none⟩::rest) aO G:= .of rfl fun a w S st=>by
 have H:a.eval x=qw r.sz l cap lo.toNat ys.length:=K S a st.facts;obtain⟨⟨cells,hraw,_⟩,_⟩:=st.own.mem _ hm;have hcn:a.eval (.const (.slice none 0 0))= .slice none 0 0:=rfl
 cases l with
 |none=>
  have hx0:xs=[]:=vM hraw.1;have hy0:ys=[]:=by
   obtain⟨lo',m,_,_,_,_,rfl⟩:=gR hs;subst hx0;simp
  have h3:(Op.equal t (.slice none 0 0) (.slice none 0 0)).run E.P w= .ok true w:=BA fun d=>by
   simp [Op.equalIn,mb D]
  have hrun:(execOp a.eval ⟨some d,.binOp .eql t x (.const (.slice none 0 0)) yt,ty,pos,after,none⟩).run E.P w= .ok (.value (.bool true)) w:=by
   simp [execOp,H,qw,hcn,eqGuard,binOp,h3]
  refine⟨fun c h=>(by cases h),?_⟩;rw [hrun];exact k true (fun _=>hy0) _ _ S (st.step (mi.refl _ _ _) st.sat hd (ko.2 rfl))
 |some b=>
  obtain⟨ad,hv⟩: ∃ad,qw r.sz (some b) cap lo.toNat ys.length= .slice (some ad) ys.length (cap-lo.toNat):=⟨_,rfl⟩;have h3:(Op.equal t (.slice (some ad) ys.length (cap-lo.toNat)) (.slice none 0 0)).run E.P w= .ok false w:=BA fun d=>by
   simp [Op.equalIn,mb D]
  have hrun:(execOp a.eval ⟨some d,.binOp .eql t x (.const (.slice none 0 0)) yt,ty,pos,after,none⟩).run E.P w= .ok (.value (.bool false)) w:=by
   simp [execOp,H,hv,hcn,eqGuard,binOp,h3]
  refine⟨fun c h=>(by cases h),?_⟩;rw [hrun];exact k false (fun e=>(by cases e)) _ _ S (st.step (mi.refl _ _ _) st.sat hd (ko.2 rfl))
def Rb{t t' :TypeId}{l l2:Option Nat}{cap2:Nat}{zs us:List α}{x y:Operand}(ti:TI E.P T sz bytes agg z)(hsz:r.sz=sz)(hz:Nat.beq z.length sz=true)(h0:Nat.blt 0 sz=true)(h128:Nat.ble bytes 2048=true)(D:E.P.underlying t=some (.slice T))(ht' :t' =t)(hd:Nat.blt d E.N.n=true)(K:bk E.N G x (Q (aI l cap n)))(hm:o5 mm r U l2 cap2 us∈d5 r T l cap xs::aO)(hs:dr us lo (us.length:Int)=some ys)(hy:bk E.N G y (Q (qw r.sz l2 cap2 lo.toNat ys.length)))(happ:hU xs ys=some zs)(k: ∀l' cap',RG E ops tV rest (d5 r T l' cap' zs::aO) ((d,Q (aI l' cap' zs.length))::G))(hn:n=xs.length:=by rfl):
  RG E ops tV (⟨some d,.call ⟨.builtin .append,#[x,y],#[t,t']⟩,ty,pos,after,none⟩::rest) (d5 r T l cap xs::aO) G:=by
 subst ht';exact z1 (u:=fun cap' l' =>Q (aI l' cap' zs.length)) ti hsz hz h0 h128 D hd K (fun a w S st=>by
  have H:a.eval y=qw r.sz l2 cap2 lo.toNat ys.length:=hy S a st.facts;rw [H];exact M5 D (st.own.mem _ hm).1 hs) happ (fun _ _ _ _ _=>rfl) k hn
end
section
variable{c:Code}{args:α->List Ty}{it:It α}{fp:Nat->Prop}
end
section
variable{ty:TypeId}
end
def y7(l:List (Option Nat×Nat)):OI:={h:=fun n=>l.getD n (none,0)}
def mf(P:Program){A aa ρ:Type}(args:A->List Ty)(Ob:aa->OI->List OE)(res:ρ->Ty)(f:aa->A->Option (ρ×aa)):Ty where
 p:=fun S v=> ∀x y R,f x y=some R-> ∃fid fst cap,v= .func (.func fid) fst cap/\aj P fid=true/\ ∀i w S' vs,SH.le S S' ->oF w S' ->Au S' (args y) vs->gm 0 xM w S' (Ob x i)->
  Calls P fid (fst++vs.toArray++cap) w fun en w' => ∃j v S'',en= .returned v/\(res R.1).p S'' v/\mi (Kl (Ob x i)) w S' w' S'' /\oF w' S'' /\gm 0 xM w' S'' (Ob R.2 j)/\ ∀k,Kl (Ob R.2 j) k->Kl (Ob x i) k\/w.heap.size<=k
 mono:=fun h k x y R hf=>by
  obtain⟨fid,fst,cap,e,hc,hs⟩:=k x y R hf;exact⟨fid,fst,cap,e,hc,fun i w S' vs hle=>hs i w S' vs (SH.le_trans h hle)⟩
variable{aa:Type}{Ob:aa->OI->List OE}
def Td:(mf P args Ob res (fun _ _=>none)).p S v:=fun _ _ _ h=>by cases h
variable{ats:Array TypeId}{fid:FuncId}{fn:Func}
section
section
variable{ty:TypeId}
def rq{f:aa->A->Option (ρ×aa)}(hc:aj E.P fid=true)(hs: ∀x y R,f x y=some R-> ∀i,bU E.P fid (args y) (Ob x i) (fun _:OI=>res R.1) (fun j=>Ob R.2 j)):
  bk E.N G (.func fid) (mf E.P args Ob res f):=fun S a _ x y R hR=>
 ⟨fid,#[],#[],rfl,hc,fun i w' S' vs _ hsat hv ho=>by
  rw [show(#[]++vs.toArray++ #[]:Array Value)=vs.toArray from by simp];exact hs x y R hR i w' S' vs hsat hv ho⟩
end
def Md{f:aa->A->Option (ρ×aa)}{x:aa}{y:A}{R:ρ×aa}{i:OI}{ty:TypeId}{fo:Operand}{xs:List Operand}(Or:List OE)(hO:aO=Ob x i++Or)(hf:bk E.N G fo (mf E.P args Ob res f))(hR:f x y=some R)(K:nD E.N G xs (args y))(hpost: ∀j,Ob R.2 j++Or=post j):
  EffOK E aO G ⟨some d,.call ⟨.value fo,xs.toArray,ats⟩,ty,pos,after,g⟩ post (fun _=>res R.1):=fun a w S hsat ho hF V=>by
 subst hO;obtain rfl:(fun j=>Ob R.2 j++Or)=post:=funext hpost;obtain⟨fid,fst,cap,e,hc,hs⟩:=hf S a hF x y R hR;have hr:(execOp a.eval ⟨some d,.call ⟨.value fo,xs.toArray,ats⟩,ty,pos,after,g⟩).run E.P w= .ok (.enter fid (fst++(xs.map a.eval).toArray++cap)) w:=by
  simp [execOp,resolve,e,Deferred.ofValue,invoke,k7 hc]
 refine⟨fun c h=>(by cases h),?_⟩;rw [hr];exact(hs i w S _ (SH.le_refl _) hsat (K.tys hF) (tX ho).1.weak).mono fun en w' ⟨j,v,S',he,hv,H,W,h3,h4⟩=>⟨_,he,v,S',j,rfl,H.more fun b ⟨f,hf,V⟩=>⟨f,GS _ hf,V⟩,W,gm.turn ho V H h3 h4,hv⟩
section
variable{N:Nat}{w0:World}{S0:SH}{O1:List OE}{ι:Type}{t:ι->Ty}{O2:ι->List OE}
def xo{rvs:List ResultVar}(hr:fn.results=rvs.toArray)(H:Nat.beq rvs.length 1=false)(h:Ux P ⟨N,[]⟩ G rvs ts)(i:ι)(hO:aO=O2 i)(D:t i=tT ts):
  AT ⟨P,⟨N,[]⟩,Kl O1,w0,S0,none⟩ (bodyPost P fn (QT ⟨P,⟨N,[]⟩,Kl O1,w0,S0,none⟩ O1 t O2)) .ret aO G:=fun a w S st=>by
 obtain⟨vs,k1,k2,k3⟩:=h.run st.sat st.facts;have hne: ¬vs.length=1:=by rw [k3];intro e;rw [e]at H;cases H
 refine⟨st.facts.defers,.tuple vs.toArray,?_,Ew st rfl i hO (by rw [D];exact⟨vs,rfl,k2⟩)⟩;have e1:(fn.results.mapM (CY a.tmps)).run P w= .ok vs.toArray w:=by
  rw [hr,List.mapM_toArray,Sem.run_map,k1];rfl
 have e3:results fn a.tmps=((fn.results.mapM (CY a.tmps))>>=fun vs=>pure (if h:vs.size=1 then vs[0]else .tuple vs)):=rfl;rw [e3,Am,e1];simp [Result.andThen,hne]
def cS{k:Nat}{x:α}(hr:fn.results= #[.cell k T])(ti:TI P T sz bytes agg z)(hsz:r.sz=sz)(hag:r.agg=agg)(hk:cX G k=some (da r x))(i:ι)(hO:aO=O2 i)(D:t i=tD r x):
  AT ⟨P,⟨N,[]⟩,Kl O1,w0,S0,none⟩ (bodyPost P fn (QT ⟨P,⟨N,[]⟩,Kl O1,w0,S0,none⟩ O1 t O2)) .ret aO G:=fun a w S st=>by
 obtain⟨b,off,c,U,fr,H,W,h3⟩:=st.facts.at_ k _ hk;obtain⟨c',h4,h5⟩:=st.sat.part W (r.len h3);rw [<-h5]at h3;refine⟨st.facts.defers,r.val ((c'.toList.drop off).take r.sz),?_,Ew st rfl i hO (by rw [D];exact⟨_,rfl,h3⟩)⟩;have hl:=lq ti h4 hsz hag h3;have h1' :a.tmps[k]?.getD undef=Value.pointer (some ⟨b,off,none⟩):=by simpa [KM] using H
 simp [results,hr,h1',asAddr,hl]
end
end
variable{et kt:TypeId}{kv:κ->Value}{os:List (Option Nat×Nat)}
section
variable [DecidableEq κ]{k:κ}{t:TypeId}{x i v:Operand}{dst:Option Nat}{ty:TypeId}
def uC{γ:β->Ty}{y:β}(hm:E.P.underlying t=some (.map kt et))(hk:SQ E.P kt kv)(K:bk E.N G x (Q (A7 b)))(hi:Xv E.N G i (kv k))(hv:bk E.N G v (γ y))
  (h: ∀os',RG E ops tV rest (HQ (XD γ) kv b none os' (vP m k y)::aO) G):
  RG E ops tV (⟨none,.insert t x i v,ty,pos,after,none⟩::rest) (HQ (XD γ) kv b none os m::aO) G:= .of rfl fun a w S st=>by
 have H:a.eval x=A7 b:=K S a st.facts;have W:a.eval i=kv k:=hi S a st.facts;have h3:(γ y).p S (a.eval v):=hv S a st.facts;obtain⟨⟨hp,hfp⟩,hap,hO⟩:=st.own;obtain⟨hno,hnb,es,clock,e3,e4,hst⟩:=hp;obtain⟨q,hq,hdk,hinj⟩:=hk;obtain⟨os1,p1,p2,_⟩:=De hdk hinj (k:=k) 0 e4;have hnb1: ∀o∈os1,o.1≠some b:=fun o ho=>by
  rcases p1 o ho with h|h
  ·exact hnb o h
  ·rw [h];exact fun e=>by cases e
 obtain⟨w',os',r,x1,x2,x3,x4⟩:=T4 (hb:=XD γ) (E:=E) (y:=y) (o:=(none,0)) (val:=a.eval v) st.sat hm ⟨q,hq,hdk,hinj⟩ ⟨hno,hnb1,es,clock,e3,p2,hst⟩ ⟨rfl,h3⟩ (fun e=>by cases e) (fun _ _ _ e=>by cases e);have hrun:(execOp a.eval ⟨none,.insert t x i v,ty,pos,after,none⟩).run E.P w= .ok .skip w' :=by simp [execOp,H,W,r]
 refine⟨fun c h=>(by cases h),?_⟩;rw [hrun];have hfp' : ∀j,(HQ (XD γ) kv b none os' (vP m k y)).fp j->(HQ (XD γ) kv b none os m).fp j:=fun j hj=>by
  rcases x4 j hj with(h|⟨o,ho,e⟩)|e
  ·exact .inl h
  ·rcases p1 o ho with h|h
   ·exact .inr ⟨o,h,e⟩
   ·rw [h]at e;cases e
  ·cases e
 exact h os' _ _ S ⟨st.ext.step x1 (fun c hc=>hfp c (.inl hc)),x2,⟨⟨x3,fun j hj=>hfp j (hfp' j hj)⟩,fun f hf j hj=>hap f hf j (hfp' j hj),hO.ext x1 fun f hf j hj hjb=>hap f hf j (.inl hjb) hj⟩,st.facts⟩
end
def Ks{κ β:Type}(γ:β->Ty)(kv:κ->Value)(S:SH):List MapEntry->List (κ×β)->Prop
 |[],[]=>True
 |e::es,q::m=>e.key=kv q.1/\(γ q.2).p S e.val/\(∀p∈m,p.1≠q.1)/\Ks γ kv S es m
 |_,_=>False
def Df{κ β:Type}{γ:β->Ty}{kv:κ->Value}{S S' :SH}(h:SH.le S S'): ∀{es:List MapEntry} {m:List (κ×β)},Ks γ kv S es m->Ks γ kv S' es m
 |[],[],_=>trivial
 |_::_,q::_,⟨H,W,h3,h4⟩=>⟨H,(γ q.2).mono h W,h3,Df h h4⟩
def WP{κ β:Type} [DecidableEq κ]{γ:β->Ty}{kv:κ->Value}{w:World}{S:SH}: ∀{es:List MapEntry} {os:List (Option Nat×Nat)} {m:List (κ×β)},As (XD γ) kv w S none es os m->Ks γ kv S es m
 |[],[],[],_=>trivial
 |_::_,_::_,_::_,⟨H,W,_,h4,h5⟩=>⟨H,by rw [bB (by simp)]at W;exact W.2,h4,WP h5⟩
def Xx{κ β:Type} [DecidableEq κ]{γ:β->Ty}{kv:κ->Value}{w:World}{S:SH}: ∀{es:List MapEntry} {m:List (κ×β)},Ks γ kv S es m->As (XD γ) kv w S none es (m.map fun _=>(none,0)) m
 |[],[],_=>trivial
 |_::_,_::_,⟨H,W,h3,h4⟩=>⟨H,by rw [bB (by simp)];exact⟨rfl,W⟩,fun _ _ _ h=>(by cases h),h3,Xx h4⟩
def tMp{κ β:Type}(γ:β->Ty)(kv:κ->Value)(m:List (κ×β)):Ty where
 p:=fun S v=> ∃b es clock,v=A7 b/\S b=some (.map es clock)/\Ks γ kv S es.toList m
 mono:=fun h ⟨b,es,cl,e,H,W⟩=>by
  obtain⟨o',h3,h4⟩:=h b _ H;have h5:o' = .map es cl:=h4;subst h5;exact⟨b,es,cl,e,h3,Df h W⟩
section
variable{c:Code} [DecidableEq κ]{k:κ}{t:TypeId}{x i:Operand}{γ:β->Ty}{dst:Option Nat}{ty:TypeId}
def NW{z:β}{zv:Value}(hm:E.P.underlying t=some (.map kt et))(hk:SQ E.P kt kv)(hz:ZV E.P et zv)(hzt: ∀S,(γ z).p S zv)(K:bk E.N G x (tMp γ kv m))(hi:Xv E.N G i (kv k)):
  dw E aO G ⟨dst,.lookup t x i false,ty,pos,after,g⟩ (γ ((C5 m k).getD z)):= .of_pure fun a w S hs ho hf=>by
 obtain⟨b,es,clock,H,h3,h4⟩:=K S a hf;obtain⟨o',h5,h6⟩:=hs b _ h3;have h7:o' = .map es clock:=h6;subst h7;obtain⟨q,hq,hd,hinj⟩:=hk;have W:a.eval i=kv k:=hi S a hf;obtain⟨_,_,_,h8⟩:=De hd hinj (k:=k) 0 (Xx (w:=w) h4);rcases h8 with⟨g1,g2⟩|⟨y,o,e,j,g1,g2,g3,g4,g5⟩
 ·refine⟨zv,by simp [execOp,H,W,Cr hm hq (hd k) h5 hz g2],by rw [g1];exact hzt S⟩
 ·refine⟨e.val,by simp [execOp,H,W,Cr hm hq (hd k) h5 hz g4],by rw [g1];exact g3.2⟩
def St.settleMp{j:Nat}(h:St E (HQ (XD γ) kv b none os m::aO) G a w S)(hk:cX G j=some (Q (A7 b))): ∃S',St E aO ((j,tMp γ kv m)::G) a w S' :=by
 obtain⟨⟨hn,_,es,clock,h3,h4,_⟩,_⟩:=h.own.1;obtain⟨h8,hle,_,_⟩:=CX h (.inl rfl) h3 (wZ _) hn;have hv:a.tmps.getD j undef=A7 b:=h.facts.at_ j _ hk;exact⟨_,h8.cons ⟨b,es,clock,hv,by simp [SH.set],Df hle (WP h4)⟩⟩
def O6{e:Exit}(j:Nat)(hk:cX G j=some (Q (A7 b)))(h:AT E tV e aO ((j,tMp γ kv m)::G)):AT E tV e (HQ (XD γ) kv b none os m::aO) G:=
 fun a w _ st=>let⟨S',st'⟩:=st.settleMp hk;h a w S' st'
end
section
variable{ty:TypeId}
end
open Go.MapKept (Stamped)
section
variable [DecidableEq κ]
end
section
variable{c:Code} [DecidableEq κ]{r:Nat}{left:List κ}{cur:Option κ}{k:κ}{t:TypeId}{x i v:Operand}{dst:Option Nat}{ty:TypeId}
end
open Go.RowKit
def mF(xs:List Int):Xo:=xs.map fun n=>UInt8.ofNat n.toNat
def HX: ∀(xs:List Int) (r:ByteArray),xs.foldl (fun r n=>r.push (UInt8.ofNat n.toNat)) r=⟨r.data++(mF xs).toArray⟩
 |[],r=>by simp [mF]
 |x::xs,r=>by
  rw [List.foldl_cons,HX xs];simp [mF,ByteArray.push]
def DV{k:IntKind}{S:SH}: ∀{xs:List Int} {cs:List Value},uI (rI k) S cs xs->cs=xs.map (Value.int k)
 |[],cs,h=>by rw [show cs=[]from h];rfl
 |x::xs,cs,⟨a,b,e,H,W⟩=>by
  rw [e,show a=[.int k x]from H,DV W];rfl
section
variable{c:Code}{ty:TypeId}
def BS{xs:List Int}{x:Operand}{dt:TypeId}(hs:E.P.underlying st=some (.slice e))(he:E.P.underlying e=some (.int .u8))(hd:E.P.underlying dt=some .string)(ti:TI E.P e sz bytes agg z)(hsz:Nat.beq sz 1=true)(K:bk E.N G x (tD (gE (rI .u8)) xs)):dw E aO G ⟨dst,.convert st dt x,ty,pos,after,g⟩ (tD rS (mF xs)):= .of_pure fun a w S hsat _ hf=>by
 obtain⟨ad,cap,hv,hle,hmax,hsl⟩:=ku.1 (K S a hf);refine⟨.string ⟨(mF xs).toArray⟩,?_,EQ.2 rfl⟩;have key: ∀(ad:Option Addr),JS (rI .u8) S ad xs->(ad=none->xs=[])->(Conv.bytesToString (.slice ad xs.length cap)).run E.P w= .ok (.string ⟨(mF xs).toArray⟩) w:=fun ad h h0=>by
  cases ad with
  |none=>rw [h0 rfl];rfl
  |some p=>
   have hl:(loadCells p xs.length).run E.P w= .ok (xs.map (Value.int .u8)).toArray w:=by
    rcases h with h|⟨b,off,cc,T,fr,H,W,h3⟩
    ·rw [h];rfl
    ·cases H;obtain⟨c',h4,h5⟩:=hsat.part W (mv h3);have h6:xs.length*(rI .u8).sz=xs.length:=by show xs.length*1=_;omega
     rw [h6]at h3 h5;have h7:=DV h3;exact yD h4 (h5.trans h7) (by simp)
   rw [run_bytesToString w p xs.length cap xs hl,HX];simp [ByteArray.empty,ByteArray.emptyWithCapacity];rfl
 simp [execOp,hv,run_convert_bytes_string w st dt e _ _ _ hs he hd,key ad hsl (fun h=>by
  rcases hsl with H|⟨b,off,cc,T,fr,H,_⟩
  ·exact H
  ·rw [h]at H;cases H)]
end
abbrev NG:=Nat->(Option Nat×Nat)×(Nat->Option Nat×Nat)
inductive NPl where
 |o
 |i (k:Nat)
 |l (k j:Nat)
section
def hd2(q:Nat->Option Nat×Nat)(zs:List (List α)):List Value:=zs.mapIdx fun j z=>aI (q j).1 (q j).2 z.length
def hd1(prj:β->List (List α))(g:NG)(x:List β):List Value:=x.mapIdx fun k y=>aI (g k).1.1 (g k).1.2 (prj y).length
def nsB(prj:β->List (List α))(l:Option Nat)(g:NG)(x:List β)(h:Option (Nat×Nat)):NPl->Option Nat
 | .o=>l
 | .i k=>(x[k]?).bind fun _=>(g k).1.1
 | .l k j=>if h=some (k,j)then none else((x[k]?).bind fun y=>(prj y)[j]?).bind fun _=>((g k).2 j).1
structure nstP(prj:β->List (List α))(r:Rp α)(T1 T2 T3:TypeId)(l:Option Nat)(cap n:Nat)(g:NG)(x:List β)(h:Option (Nat×Nat))(w:World)(S:SH):Prop where
 len:x.length=n
 out:Dj false rV T1 l cap (hd1 prj g x) w S
 inn: ∀k y,x[k]? =some y->Dj false rV T2 (g k).1.1 (g k).1.2 (hd2 (g k).2 (prj y)) w S
 lvs: ∀k y j z,x[k]? =some y->(prj y)[j]? =some z->h≠some (k,j)->Dj true r T3 ((g k).2 j).1 ((g k).2 j).2 z w S
 inj: ∀bx t b,nsB prj l g x h bx=some b->nsB prj l g x h t=some b->bx=t
variable{prj:β->List (List α)}{T1 T2 T3:TypeId}{l:Option Nat}{g:NG}{x:List β}{h:Option (Nat×Nat)}
end
section
variable{prj:β->List (List α)}{T1 T2 T3:TypeId}{l:Option Nat}{g:NG}{x:List β}{h:Option (Nat×Nat)}
variable{c:Code}{ty:TypeId}{gd:Option (Nat×Bool)}
open Classical in
noncomputable def afE(w:World)(S:SH)(P:Nat->Prop):SH:=fun b=>if P b then w.heap[b]? else S b
def g0(hs:List (Option Nat×Nat)):NG:=fun k=>(hs.getD k (none,0),fun _=>(none,0))
def tsB(l:Option Nat)(q:Nat->Option Nat×Nat)(zs:List (List α))(h:Option Nat):Option Nat->Option Nat
 |none=>l
 |some j=>if h=some j then none else(zs[j]?).bind fun _=>(q j).1
structure rowP(r:Rp α)(T2 T3:TypeId)(l:Option Nat)(cap n:Nat)(q:Nat->Option Nat×Nat)(zs:List (List α))(h:Option Nat)(w:World)(S:SH):Prop where
 len:zs.length=n
 inn:Dj false rV T2 l cap (hd2 q zs) w S
 lvs: ∀j z,zs[j]? =some z->h≠some j->Dj true r T3 (q j).1 (q j).2 z w S
 inj: ∀bx t b,tsB l q zs h bx=some b->tsB l q zs h t=some b->bx=t
variable{q:Nat->Option Nat×Nat}{zs:List (List α)}{k:Option Nat}
end
def Jq(es:List Bool)(done:Array Bool):List Nat:=(List.range es.length).filter fun k=>(es[k]?).getD false&&done.getD k false
def Yw(es:List Bool)(i:Nat)(bx:List Nat):List Nat:=(List.range es.length).filter fun k=>Nat.beq k i||bx.contains k
def eqL:List Nat->List Nat->Bool
 |[],[]=>true
 |a::bx,b::t=>Nat.beq a b&&eqL bx t
 |_,_=>false
def QS: ∀{bx t:List Nat},eqL bx t=true->bx=t
 |[],[],_=>rfl
 |a::bx,b::t,h=>by
  simp only [eqL,nw]at h;rw [t8 h.1,QS h.2]
 |[],_::_,h=>by cases h
 |_::_,[],h=>by cases h
def US:List (List Nat×((Nat->OI)->List OE))->List Nat->(Nat->OI)->List OE
 |[],_,_=>[]
 |p::r,bx,σ=>bif eqL p.1 bx then p.2 σ else US r bx σ
def Ea{k:Nat}:k∈Jq es done↔es[k]? =some true/\done.getD k false=true:=by
 unfold Jq;rw [List.mem_filter,List.mem_range,nw];constructor
 ·rintro⟨H,W,h3⟩;refine⟨?_,h3⟩;rw [vp H]at W ⊢;simpa using W
 ·rintro⟨H,W⟩;exact⟨(vK.1 H).1,by rw [H];rfl,W⟩
def Un{i:Nat}(h:es[i]? =some false):Jq es (done.setIfInBounds i true)=Jq es done:=by
 unfold Jq;refine List.filter_congr fun k hk=>?_;by_cases hik:i=k
 ·subst hik;rw [h];rfl
 ·rw [z7 false hik]
def Z5{i:Nat}(h:es[i]? =some true)(hs:i<done.size):Jq es (done.setIfInBounds i true)=Yw es i (Jq es done):=by
 unfold Yw
 conv=>lhs;unfold Jq
 refine List.filter_congr fun k hk=>?_;by_cases hik:i=k
 ·subst hik;simp [h,hs]
 ·rw [z7 false hik];have V:Nat.beq k i=false:=by
   cases V:Nat.beq k i with
   |false=>rfl
   |true=>exact absurd (t8 V).symm hik
  rw [V,ta,tY,ME,Ea,nw];constructor
  ·rintro⟨H,W⟩;refine⟨?_,W⟩
   cases he:es[k]? with
   |none=>rw [he]at H;cases H
   |some b=>rw [he]at H;simpa using H
  ·rintro⟨H,W⟩;exact⟨by rw [H];rfl,W⟩
def JP:List Nat->List (List Nat)
 |[]=>[[]]
 |k::l=>(JP l).map (k:: ·)++JP l
def Gl(es:List Bool):List Nat:=(List.range es.length).filter fun k=>(es[k]?).getD false
def Bh(p:Nat->Bool): ∀l:List Nat,l.filter p∈JP l
 |[]=>EN.2 rfl
 |k::l=>by
  unfold JP;rw [An];by_cases h:p k=true
  ·rw [List.filter_cons_of_pos h];exact .inl (GO.2 ⟨_,Bh p l,rfl⟩)
  ·rw [List.filter_cons_of_neg h];exact .inr (Bh p l)
def WU(es:List Bool)(done:Array Bool):Jq es done∈JP (Gl es):=by
 have:Jq es done=(Gl es).filter fun k=>done.getD k false:=by
  unfold Jq Gl;rw [List.filter_filter];refine List.filter_congr fun k _=>Bool.and_comm ..
 rw [this];exact Bh _ _
def noE(L:List Oper)(es:List Bool)(i:Nat)(bx:List Nat):Bool:=
 bx.contains i||(Gl es).any fun k=>if bx.contains k then qJ L L.length k i||(Gl es).any fun j=> !bx.contains j&&qJ L L.length k j else qJ L L.length i k
def S3(L:List Oper)(es:List Bool)(i:Nat)(aas:List (List Nat)):Bool:=(JP (Gl es)).all fun bx=>noE L es i bx||aas.any fun a=>eqL a bx
def O5{α:Type}(p:α->Prop):List α->Prop
 |[]=>True
 |a::l=>p a/\O5 p l
def O5.mem{p:α->Prop}: ∀{l:List α},O5 p l-> ∀a∈l,p a
 |_::_,⟨h,_⟩,_,.head _=>h
 |_::_,⟨_,h⟩,_,.tail _ hm=>O5.mem h _ hm
abbrev SsT:=List (List Nat×((Nat->OI)->List OE))
def DT(E:En)(G:ou)(L:List Oper)(ts:List TS)(Ss:SsT)(es0:List Bool):Nat->List Oper->List Bool->Prop
 |_,[],_=>True
 |i,o::rest,false::es=>(∃(needs:List NS) (t:TS) (aas:List (List Nat)),ts[i]? =some t/\Ak G ts needs/\(needs.all fun n=>sH L o i (n.at fun _=>fe))=true/\gr i o=true/\Uo L es0 i t=true/\S3 L es0 i aas=true/\o.dst.isSome=true/\
   O5 (fun bx=> ∀σ,cr E (US Ss bx σ) L.toArray (Ag needs σ) o (t.at σ)) aas)/\DT E G L ts Ss es0 (i+1) rest es
 |i,o::rest,true::es=>(∃(needs:List NS) (t:TS) (aas:List (List Nat×List Nat)),ts[i]? =some t/\Ak G ts needs/\(needs.all fun n=>sH L o i (n.at fun _=>fe))=true/\gr i o=true/\Uo L es0 i t=true/\S3 L es0 i (aas.map (·.1))=true/\(aas.all fun p=>eqL (Yw es0 i p.1) p.2)=true/\
   O5 (fun p:List Nat×List Nat=> ∀σ,ma E L.toArray (US Ss p.1 σ) (Ag needs σ) o (fun x=>US Ss p.2 (Po σ i x)) (fun x=>t.at (Po σ i x))) aas)/\DT E G L ts Ss es0 (i+1) rest es
 |_,_::_,[]=>False
def DT.get{ts:List TS}{Ss:SsT}{es0:List Bool}: ∀(r:List Oper) (es:List Bool) (k:Nat),DT E G L ts Ss es0 k r es-> ∀(j:Nat) (o:Oper),r[j]? =some o->
    ∃e,es[j]? =some e/\ ∃(needs:List NS) (t:TS),ts[k+j]? =some t/\Ak G ts needs/\(needs.all fun n=>sH L o (k+j) (n.at fun _=>fe))=true/\gr (k+j) o=true/\Uo L es0 (k+j) t=true/\
      (match e with
       |false=>o.dst.isSome=true/\ ∃aas,S3 L es0 (k+j) aas=true/\O5 (fun bx=> ∀σ,cr E (US Ss bx σ) L.toArray (Ag needs σ) o (t.at σ)) aas
       |true=> ∃aas:List (List Nat×List Nat),S3 L es0 (k+j) (aas.map (·.1))=true/\(aas.all fun p=>eqL (Yw es0 (k+j) p.1) p.2)=true/\O5 (fun p:List Nat×List Nat=> ∀σ,ma E L.toArray (US Ss p.1 σ) (Ag needs σ) o (fun x=>US Ss p.2 (Po σ (k+j) x)) (fun x=>t.at (Po σ (k+j) x))) aas):=by
  intro r
  induction r with
  |nil=>intro es k _ j o h;simp at h
  |cons p r ih=>
    intro es k h j o ho
    cases es with
    |nil=>exact h.elim
    |cons e es=>
      cases e with
      |false=>
        obtain⟨⟨needs,t,aas,g1,g2,g3,g4,g5,g6,g7,g8⟩,W⟩:=h
        cases j with
        |zero=>
          simp at ho;subst ho;exact⟨false,rfl,needs,t,g1,g2,g3,g4,g5,g7,aas,g6,g8⟩
        |succ j=>
          obtain⟨e',g1,g2⟩:=ih es (k+1) W j o (by simpa using ho);refine⟨e',by simpa using g1,?_⟩;rw [show k+1+j=k+(j+1)from by omega]at g2;exact g2
      |true=>
        obtain⟨⟨needs,t,aas,g1,g2,g3,g4,g5,g6,g7,g8⟩,W⟩:=h
        cases j with
        |zero=>
          simp at ho;subst ho;exact⟨true,rfl,needs,t,g1,g2,g3,g4,g5,aas,g6,g7,g8⟩
        |succ j=>
          obtain⟨e',g1,g2⟩:=ih es (k+1) W j o (by simpa using ho);refine⟨e',by simpa using g1,?_⟩;rw [show k+1+j=k+(j+1)from by omega]at g2;exact g2
structure DJT(E:En)(G:ou)(l:List Oper)(ts:List TS)(Ss:SsT)(es:List Bool)(done:Array Bool)(a:Act)(w:World)(S:SH)(σ:Nat->OI):Prop where
 ext:mi E.B E.w0 E.S0 w S
 sat:oF w S
 own:gm E.base E.B w S (US Ss (Jq es done) σ)
 size:a.tmps.size=E.N.n
 defers:a.defers=E.N.ds
 dsz:done.size=l.length
 down: ∀j o,l[j]? =some o->done.getD j false=true-> ∀e∈o.after,Region.binds .any e=true->done.getD e.on false=true
 old: ∀k t,cX G k=some t->(∀j o,l[j]? =some o->done.getD j false=true->o.dst≠some k)->t.p S (a.tmps.getD k undef)
 new: ∀j o d p,l[j]? =some o->done.getD j false=true->o.dst=some d->ts[j]? =some p->(p.at σ).p S (a.tmps.getD d undef)
 deps: ∀j p,done.getD j false=true->ts[j]? =some p-> ∀k∈p.1,done.getD k false=true
section
variable{ts:List TS}{Ss:SsT}
def DJT.need(h:DJT E G L ts Ss es done a w S σ){i:Nat}(hi:L[i]? =some o)(hun:done.getD i true=false)(hwait: ∀e∈o.after,Region.binds .any e=true->done.getD e.on false=true){needs:List NS}(H:Ak G ts needs)(W:(needs.all fun n=>sH L o i (n.at fun _=>fe))=true):cD E.N S a (Ag needs σ):=by
 have hlt:i<done.size:=by rw [h.dsz];exact(vK.1 hi).1
 have hun' :done.getD i false=false:=by
  simp [hlt]at hun ⊢;exact hun
 refine⟨h.size,h.defers,?_⟩;have key: ∀n∈needs,(n.ty σ).p S (a.tmps.getD n.slot undef):=by
  intro n hn;have hs:=mI.1 W n hn;have ho:=H.mem n hn;unfold sH NS.at at hs;unfold aai at ho
  cases hsrc:n.src with
  |some j=>
   rw [hsrc]at hs ho;simp only [nw]at hs;obtain⟨hs1,hs2⟩:=hs
   cases hj:L[j]? with
   |none=>rw [hj]at hs1;cases hs1
   |some p=>
    rw [hj]at hs1
    cases hd:p.dst with
    |none=>simp only [hd]at hs1;cases hs1
    |some d=>
     simp only [hd]at hs1;have hd' :=t8 hs1;subst hd';have hdone:done.getD j false=true:=by
      unfold FE at hs2;obtain⟨e,he0,V⟩:=GK.1 hs2;have he:e∈o.after:=by simpa using he0
      simp only [nw]at V;have:=hwait e he V.2
      rwa [t8 V.1]at this
     have hm:=ho σ
     cases hf:ts[j]? with
     |none=>rw [hf]at hm;simp at hm
     |some f=>
      rw [hf]at hm;have e:f.at σ=n.ty σ:=by simpa using hm
      rw [<-e];exact h.new j p n.slot f hj hdone hd hf
  |none=>
   rw [hsrc]at hs ho;refine h.old _ _ (ho σ) fun j p hj hdone hd=>?_;have:=mI.1 hs p (t7 hj);simp only [hd,Nat.beq_refl,uc,ta]at this;unfold FE at this;obtain⟨e,he0,V⟩:=GK.1 this;have he:e∈p.after:=by simpa using he0
   simp only [nw]at V;have h3:=h.down j p hj hdone e he V.2;rw [t8 V.1]at h3;rw [h3]at hun';cases hun'
 clear H W;intro k t hk;unfold Ag at hk
 induction needs with
 |nil=>simp [lg,cX]at hk
 |cons n needs ih=>
  simp only [Jw]at hk;unfold lg cX at hk;by_cases V:Nat.beq n.slot k=true
  ·have hb' :Nat.beq (n.at σ).slot k=true:=V;rw [hb']at hk;have:=t8 V;subst this;have h9:some (n.at σ).ty=some t:=by simpa using hk
   have e:n.ty σ=t:=uK h9;rw [<-e];exact key n (jO ..)
  ·rw [Dp]at V;have hb' :Nat.beq (n.at σ).slot k=false:=V;rw [hb']at hk;exact ih (fun m hm=>key m (kX _ hm)) hk
def DJT.step{σ' :Nat->OI}(h:DJT E G L ts Ss es done a w S σ){i:Nat}{p0:TS}{C:Nat->Prop}(hi:L[i]? =some o)(hdN: ∀d,o.dst=some d->d<E.N.n)(hs2: ∀d,o.dst=some d-> ∀j p,L[j]? =some p->done.getD j false=true->p.dst=some d->i=j)(hwait: ∀e∈o.after,Region.binds .any e=true->done.getD e.on false=true)(D:ts[i]? =some p0)(hun:done.getD i true=false)(hdep: ∀k∈p0.1,k=i\/done.getD k false=true)(hext:mi C w S w' S')(hC: ∀b,C b->E.base<=b\/E.B b)(hsat:oF w' S')(hown:gm E.base E.B w' S' (US Ss (Jq es (done.setIfInBounds i true)) σ'))(hσ: ∀k,k≠i->σ' k=σ k)(hv:(p0.at σ').p S' v):
  DJT E G L ts Ss es (done.setIfInBounds i true) (a.put o.dst v) w' S' σ' :=by
 have hlt:i<done.size:=by rw [h.dsz];exact(vK.1 hi).1
 have hset: ∀j,(done.setIfInBounds i true).getD j false=true->j=i\/done.getD j false=true:=fun j hj=>by
  by_cases hij:i=j
  ·exact .inl hij.symm
  ·rw [z7 false hij]at hj;exact .inr hj
 have hseti:(done.setIfInBounds i true).getD i false=true:=by simp [hlt]
 have hun' :done.getD i false=false:=by simp [hlt]at hun ⊢;exact hun
 have hput: ∀k,(∀d,o.dst=some d->d≠k)->(a.put o.dst v).tmps.getD k undef=a.tmps.getD k undef:=fun k hk=>by
  cases hd:o.dst with
  |none=>rfl
  |some d=>
   have hda:d<a.tmps.size:=by rw [h.size];exact hdN d hd
   rw [xJ hda,bB (hk d hd)]
 refine⟨h.ext.step hext hC,hsat,hown,?_,?_,by simp [h.dsz],fun j p hj hdone e he V=>?_,fun k u hk hno=>?_,fun j p d' u hj hdone hd' hu=>?_,fun j u hj hu k hk=>?_⟩
 ·cases o.dst with
  |none=>exact h.size
  |some d=>simp [Act.put,h.size]
 ·cases o.dst with
  |none=>exact h.defers
  |some d=>exact h.defers
 ·rcases hset j hdone with rfl|hj'
  ·rw [hi]at hj;have:o=p:=by simpa using hj
   subst this;exact B9 (hwait e he V)
  ·exact B9 (h.down j p hj hj' e he V)
 ·rw [hput k fun d hd e=>hno i o hi hseti (by rw [hd,e])];exact u.mono hext.keep (h.old k u hk fun j p hj hdone=>hno j p hj (B9 hdone))
 ·by_cases hij:j=i
  ·subst hij;rw [hi]at hj;have:o=p:=by simpa using hj
   subst this;have hda:d' <a.tmps.size:=by rw [h.size];exact hdN d' hd'
   rw [hd',xJ hda,bM rfl];rw [D]at hu;have:p0=u:=by simpa using hu
   subst this;exact hv
  ·have hj' :=(hset j hdone).resolve_left hij;rw [hput d' fun d hd e=>by subst e;exact hij (hs2 d hd j p hj hj' hd').symm];have e1:u.at σ' =u.at σ:=congrArg u.2 (MD fun k hk=>hσ k fun e=>by
     subst e;rw [h.deps j u hj' hu k hk]at hun';cases hun')
   rw [e1];exact Ty.mono _ hext.keep (h.new j p d' u hj hj' hd' hu)
 ·rcases hset j hj with rfl|hj'
  ·rw [D]at hu;have:p0=u:=by simpa using hu
   subst this;rcases hdep k hk with rfl|h'
   ·exact hseti
   ·exact B9 h'
  ·exact B9 (h.deps j u hj' hu k hk)
end
def MP{l t:List Oper}{ts:List TS}{Ss:SsT}(hsl:AK E.N.n [] l=true)(hlen:ts.length=l.length)(hesl:es.length=l.length)(hd:DT E G (l++t) ts Ss es 0 l es)(D:Cq (l++t) l.length t.length=true)(hQ: ∀a w S σ,St E (US Ss (Gl es) σ) (NN l (XC ts σ) G) a w S->wpListIn (fw E.r) 0 E.P (l++t).toArray tV t a w):
  ∀(fuel:Nat) (done:Array Bool) (a:Act) (w:World) (S:SH) (σ:Nat->OI),nZ done=fuel->(∀j,l.length<=j->done.getD j false=false)->DJT E G (l++t) ts Ss es done a w S σ->wpAnyIn (fw E.r) 0 E.P .any (l++t).toArray tV fuel done a w:=by
 have hL1: ∀i o,i<l.length->(l++t)[i]? =some o->l[i]? =some o:=fun i o hi h=>by rwa [Ds hi]at h
 have hL2: ∀i o,l[i]? =some o->(l++t)[i]? =some o:=fun i o h=>by rw [Ds (vK.1 h).1];exact h
 have htail: ∀m o,l.length<=m->(l++t)[m]? =some o->zV (l++t) m=true/\gr m o=true:=fun m o hm ho=>by
  have hml:m<(l++t).length:=(vK.1 ho).1;rw [nY]at hml;unfold Cq at D;have:=mI.1 D (m-l.length) (by simp;omega);rw [show l.length+(m-l.length)=m from by omega,ho]at this;simp only [nw]at this;exact⟨this.1,this.2.1⟩
 have hget:=fun i o (hi:l[i]? =some o)=>DT.get l es 0 hd i o hi;have hedge: ∀i o,(l++t)[i]? =some o->gr i o=true:=fun i o hi=>by
  rcases pj i l.length with h|h
  ·obtain⟨_,_,_,_,_,_,_,h,_⟩:=hget i o (hL1 i o h hi);simpa using h
  ·exact(htail i o h hi).2
 obtain⟨hs1,hs2⟩:=FG l [] hsl;have fin: ∀fuel done a w S σ,nZ done=fuel->(∀j,l.length<=j->done.getD j false=false)->DJT E G (l++t) ts Ss es done a w S σ->(∀i,i<l.length->done.getD i false=true)->wpAnyIn (fw E.r) 0 E.P .any (l++t).toArray tV fuel done a w:=by
  intro fuel done a w S σ hu hfree h hall;have hdn:Jq es done=Gl es:=by
   unfold Jq Gl;refine List.filter_congr fun k hk=>?_;rw [hall k (by rw [<-hesl];exact List.mem_range.1 hk),Bool.and_true]
  have hown:=h.own;rw [hdn]at hown;refine CP (n:=l.length) (fun m o hm ho=>(htail m o hm ho).1) hedge t l.length done fuel a w (kE _) (by simp) h.dsz (fun j hj=>⟨fun hjd=>?_,fun hlt=>hall j hlt⟩) hu
   (hQ a w S σ ⟨h.ext,h.sat,hown,h.size,h.defers,fun j u hj=>?_⟩)
  ·rcases pj j l.length with h' |h'
   ·exact h'
   ·rw [hfree j h']at hjd;cases hjd
  ·rcases Kg l (XC ts σ) j u (by unfold XC;rw [Jx];exact hlen) hj with⟨i,o,H,W,h3⟩|⟨H,W⟩
   ·unfold XC at h3;rw [MC]at h3
    cases hf:ts[i]? with
    |none=>rw [hf]at h3;simp at h3
    |some f=>
     rw [hf]at h3;have e:f.at σ=u:=by simpa using h3
     rw [<-e];exact h.new i o j f (hL2 i o H) (hall i (vK.1 H).1) W hf
   ·refine h.old j u H fun i o ho hdn=>?_;rcases pj i l.length with h' |h'
    ·exact W o (t7 (hL1 i o h' ho))
    ·rw [hfree i h']at hdn;cases hdn
 have lower: ∀done a w S σ i,(∀j,l.length<=j->done.getD j false=false)->DJT E G (l++t) ts Ss es done a w S σ->i∈Region.ready .any (l++t).toArray done->l.length<=i-> ∀j,j<l.length->done.getD j false=true:=by
  intro done a w S σ i hfree h hi hge j hj;obtain⟨hun,p,hp,hwait⟩:=wI.1 hi;have hp' :(l++t)[i]? =some p:=by simpa using hp
  have hcov:=(htail i p hge hp').1;unfold zV at hcov;have hre:=mI.1 hcov j (by simp;omega);exact i0 h.down _ i j (fun q hq e he V=>by
   have:q=p:=by rw [hp']at hq;simpa using hq.symm
   subst this;exact hwait e he V) hre
 intro fuel
 induction fuel with
 |zero=>
  intro done a w S σ hu hfree h;exact fin 0 done a w S σ hu hfree h fun i hi=>xv hu (by rw [h.dsz,nY];omega)
 |succ fuel ih=>
  intro done a w S σ hu hfree h;by_cases hall: ∀i,i<l.length->done.getD i false=true
  ·exact fin _ done a w S σ hu hfree h hall
  have hready0: ∀m i,i<m->i<l.length->Region.ready .any (l++t).toArray done=[]->done.getD i false=true:=by
   intro m
   induction m with
   |zero=>intro i h;omega
   |succ m ihm=>
    intro i him hil hr;have his:i<done.size:=by rw [h.dsz,nY];omega
    by_cases hdn:done.getD i true=true
    ·rw [<-rZ his];exact hdn
    ·exfalso;obtain⟨o,ho⟩: ∃o,(l++t)[i]? =some o:=⟨l[i],hL2 i _ (vp hil)⟩;have hmem:i∈Region.ready .any (l++t).toArray done:=by
      rw [wI];refine⟨by simpa using hdn,o,by simpa using ho,fun e he V=>?_⟩;have:=hedge i o ho;unfold gr at this;have:=mI.1 this e (by simpa using he);simp only [V,uc,ta,ye]at this;exact ihm e.on (by omega) (by omega) hr
     rw [hr]at hmem;cases hmem
  refine⟨fun hr=>absurd (fun i hi=>hready0 (i+1) i (by omega) hi hr) hall,fun i hi=>?_⟩;have hil:i<l.length:=by
   rcases pj i l.length with h' |h'
   ·exact h'
   ·exact absurd (lower done a w S σ i hfree h hi h') hall
  obtain⟨hun,o,ho,hwait⟩:=wI.1 hi;have ho' :(l++t)[i]? =some o:=by simpa using ho
  have hol:=hL1 i o hil ho';obtain⟨e,he,needs,u,H,W,h3,_,h4,h5⟩:=hget i o hol;rw [yA]at H h3 h4;have hF:=h.need ho' hun hwait W h3;have his:i<done.size:=by rw [h.dsz,nY];omega
  have hun' :done.getD i false=false:=by rw [<-rZ his];exact hun
  have hu' :nZ (done.setIfInBounds i true)=fuel:=by have:=uN hun;omega
  have huq: ∀d,o.dst=some d-> ∀j p,(l++t)[j]? =some p->done.getD j false=true->p.dst=some d->i=j:=fun d hdd j p hj hjd hpd=>by
   rcases pj j l.length with h' |h'
   ·exact hs2 i j o p d hol (hL1 j p h' hj) hdd hpd
   ·rw [hfree j h']at hjd;cases hjd
  have hfree' : ∀j,l.length<=j->(done.setIfInBounds i true).getD j false=false:=fun j hj=>by
   rw [z7 false (by omega)];exact hfree j hj
  have hbl:E.base<=w.heap.size:=h.ext.size;have hwaits: ∀q,(l++t)[i]? =some q-> ∀e∈q.after,Region.binds .any e=true->done.getD e.on false=true:=fun q hq e he V=>by
   have:q=o:=by rw [ho']at hq;simpa using hq.symm
   subst this;exact hwait e he V
  have hdpp: ∀k∈u.1,k=i\/done.getD k false=true:=fun k hk=>by
   have:=mI.1 h4 k hk;simp only [nw,CK]at this;rcases this.2 with V|V
   ·exact .inl (t8 V)
   ·exact .inr (i0 h.down _ i k hwaits V)
  have hdNN: ∀d,o.dst=some d->d<E.N.n:=fun d hd=>(hs1 o (t7 hol) d hd).1;unfold wpOpIn;rw [ho];show if _ then _ else _;have hpos:noE (l++t) es i (Jq es done)=false:=by
   rw [IU];intro hno;unfold noE at hno;rw [CK]at hno;rcases hno with hc|hc
   ·have:=(Ea.1 (ME.1 hc)).2;rw [this]at hun';cases hun'
   ·obtain⟨k,hk1,hk2⟩:=GK.1 hc;have hke:es[k]? =some true:=by
     unfold Gl at hk1;rw [List.mem_filter,List.mem_range]at hk1;have h7:=hk1.2;rw [vp hk1.1]at h7 ⊢;simpa using h7
    by_cases hin:(Jq es done).contains k=true
    ·rw [bM hin,CK]at hk2;have hkd:=(Ea.1 (ME.1 hin)).2;rcases hk2 with V|V
     ·have:=i0 h.down _ k i (fun q hq e he V=>h.down k q hq hkd e he V) V;rw [this]at hun';cases hun'
     ·obtain⟨j,hj1,hj2⟩:=GK.1 V;rw [nw,Cn]at hj2;have hje:es[j]? =some true:=by
       unfold Gl at hj1;rw [List.mem_filter,List.mem_range]at hj1;have h7:=hj1.2;rw [vp hj1.1]at h7 ⊢;simpa using h7
      have hjd:=i0 h.down _ k j (fun q hq e he V=>h.down k q hq hkd e he V) hj2.2;have:=ME.2 (Ea.2 ⟨hje,hjd⟩);rw [hj2.1]at this;cases this
    ·rw [bB hin]at hk2;have hkd:=i0 h.down _ i k hwaits hk2;exact hin (ME.2 (Ea.2 ⟨hke,hkd⟩))
  have hwin: ∀aas:List (List Nat),S3 (l++t) es i aas=true->Jq es done∈aas:=by
   intro aas hw;unfold S3 at hw;have:=mI.1 hw _ (WU es done);rw [hpos,ta]at this;obtain⟨b,hb1,hb2⟩:=GK.1 this;rw [<-QS hb2];exact hb1
  cases e with
  |false=>
   simp only at h5;obtain⟨hdS,aas,hw,h5⟩:=h5;rw [yA]at hw;obtain⟨d,hdd⟩:=Rr.1 hdS;have h6:=h5.mem _ (hwin aas hw) σ a w S h.sat h.own hF;have hdq:=Un (done:=done) he;by_cases hw:Region.wanted o (yielded (l++t).toArray a.tmps)=true
   ·rw [bM hw]at h6 ⊢;refine nK (fun a' w' ⟨v,S',ha,K,hs,hv⟩=>?_) h6;subst ha;exact ih _ _ _ S' _ hu' hfree' (h.step ho' hdNN huq hwait H hun hdpp K (fun _ V=>V.elim) hs (by rw [hdq];exact h.own.ext0 K) (fun _ _=>rfl) hv)
   ·rw [bB hw]at h6 ⊢;exact⟨fun _ _=>trivial,ih _ _ _ S _ hu' hfree' (h.step ho' hdNN huq hwait H hun hdpp (mi.refl xM _ _) (fun _ V=>V.elim) h.sat (by rw [hdq];exact h.own) (fun _ _=>rfl) h6)⟩
  |true=>
   simp only [yA]at h5;obtain⟨aas,hw,hins,h5⟩:=h5;obtain⟨p,hp1,hp2⟩:=GO.1 (hwin _ hw);have hp3:=QS (mI.1 hins p hp1);have h6:=h5.mem p hp1 σ a w S h.sat (by rw [hp2];exact h.own) hF hbl;have hdq:Jq es (done.setIfInBounds i true)=p.2:=by rw [Z5 he his,<-hp2,hp3]
   by_cases hw:Region.wanted o (yielded (l++t).toArray a.tmps)=true
   ·rw [bM hw]at h6 ⊢;refine nK (fun a' w' ⟨v,S',x,ha,K,hs,hown,hv⟩=>?_) h6;subst ha;exact ih _ _ _ S' _ hu' hfree' (h.step ho' hdNN huq hwait H hun hdpp K (fun b ⟨f,hf,V⟩=>(gm.mem h.own f (by rw [<-hp2];exact hf)).2 b V) hs (by rw [hdq];exact hown) (fun k hk=>KT σ x hk) hv)
   ·rw [bB hw]at h6 ⊢;obtain⟨x,hown,hv⟩:=h6;exact⟨fun _ _=>trivial,ih _ _ _ S _ hu' hfree' (h.step ho' hdNN huq hwait H hun hdpp (mi.refl xM _ _) (fun _ V=>V.elim) h.sat (by rw [hdq];exact hown) (fun k hk=>KT σ x hk) hv)⟩
def O4{id:Nat}(m:Nat)(ts:List TS)(es:List Bool)(Ss:SsT)(hO: ∀σ,US Ss [] σ=aO)(hm:E.P.follows .mixedOrders=true)(hsl:AK E.N.n [] (L.take m)=true)(hlen:ts.length=(L.take m).length)(hesl:es.length=(L.take m).length)(D:Cq L (L.take m).length (L.drop m).length=true)(hd:DT E G L ts Ss es 0 (L.take m) es)(k: ∀σ:Nat->OI,RG E L.toArray tV (L.drop m) (US Ss (Gl es) σ) (NN (L.take m) (XC ts σ) G)):CG E tV (.region id L.toArray true) aO G:=fun a w S st=>by
 have hL:L=L.take m++L.drop m:=(vX m L).symm;generalize L.take m=l at hL hsl hlen hesl D hd k;generalize L.drop m=t at hL D k;subst hL;refine wpIn_region_any hm ?_;obtain⟨he,hs⟩:=Bw (w:=w) st.sat;have hdn0:Jq es (Array.replicate (l++t).toArray.size false)=[]:=by
  unfold Jq;refine List.filter_eq_nil_iff.2 fun k hk=>?_;simp [CL];intro _;split<;>simp
 refine MP hsl hlen hesl hd D (fun a w S σ st=>k σ a w S st) _ _ _ _ S (fun _=>fe) ?_ (fun j _=>?_)
  ⟨st.ext.step0 he,hs,by rw [hdn0,hO];exact st.own.ext0 he,st.facts.size,st.facts.defers,by simp,fun j o hj hdone=>?_,fun k t hk _=>st.facts.at_ k t hk,fun j o d t hj hdone=>?_,fun j p hdone=>?_⟩
 ·unfold nZ;rw [Ro,Rj];simp
 ·simp [CL];split<;>rfl
 ·simp [CL]at hdone;split at hdone<;>simp at hdone
 ·simp [CL]at hdone;split at hdone<;>simp at hdone
 ·simp [CL]at hdone;split at hdone<;>simp at hdone
variable{base:Nat}
def gm.perm{B:Nat->Prop}(h:aO.Perm O'):gm base B w S aO->gm base B w S O' :=by
 induction h with
 |nil=>exact id
 |cons x p ih=>
  rintro⟨H,W,h3⟩;exact⟨H,fun f hf=>W f (p.mem_iff.2 hf),ih h3⟩
 |swap x y l=>
  rintro⟨H,W,h3,h4,h5⟩;refine⟨h3,fun f hf k hk hfk=>?_,H,fun f hf=>W f (kX _ hf),h5⟩;rcases ll.1 hf with rfl|hf
  ·exact W x (jO ..) k hfk hk
  ·exact h4 f hf k hk hfk
 |trans _ _ ih1 ih2=>exact fun k=>ih2 (ih1 k)
def xK(aO:List OE):List Nat->List OE
 |[]=>[]
 |i::l=>match aO[i]? with
  |some e=>e::xK aO l
  |none=>xK aO l
def DZ(aO:List OE): ∀a b:List Nat,xK aO (a++b)=xK aO a++xK aO b
 |[],_=>rfl
 |i::a,b=>by
  simp only [GL,xK];split<;>simp [DZ aO a b]
def PS{a b:List Nat}(h:a.Perm b):(xK aO a).Perm (xK aO b):=by
 induction h with
 |nil=>exact .nil
 |cons x p ih=>
  simp only [xK];split
  ·exact .cons _ ih
  ·exact ih
 |swap x y l=>
  simp only [xK];cases K:aO[x]? <;>cases hy:aO[y]? <;>simp<;>exact .swap ..
 |trans _ _ ih1 ih2=>exact ih1.trans ih2
def ND(aO:List OE):xK aO (List.range aO.length)=aO:=by
 have key: ∀n,n<=aO.length->xK aO (List.range n)=aO.take n:=by
  intro n
  induction n with
  |zero=>intro _;rfl
  |succ n ih=>
   intro h;rw [List.range_succ,DZ,ih (by omega)];simp only [xK];rw [vp (by omega),UV (by omega)]
 rw [key _ (kE _),EK]
def gm.pick{B:Nat->Prop}(l:List Nat)(hl:l.isPerm (List.range aO.length)=true)(h:gm base B w S aO):gm base B w S (xK aO l):=
 h.perm (by
  have:=PS (aO:=aO) (List.isPerm_iff.1 hl);rw [ND]at this;exact this.symm)
section
section
variable{ty:TypeId}
end
end
open Go.ChangeShapes Go.WideShapes Go.ChangeAt
variable{h1:Type}{h2:World}{enc:TypeId×Value->h1}
section
def N1(h2:World):SH:=fun b=>h2.heap[b]?
def aa7(h2:World)(Y: ∀p∈ads,∃c T fr,h2.heap[p.1]? =some (.cells c T fr)/\c.toList.take p.2.length=p.2)(D: ∀w' :World,(∀(b:Nat) (o:Obj),h2.heap[b]? =some o-> ∃o',w'.heap[b]? =some o' /\MA o o')->adg w'):oF h2 (N1 h2):=⟨fun _ o h=>⟨o,h,wZ o⟩,Y,D⟩
def ToR(enc:TypeId×Value->h1)(P:Program)(h2:World){α:Type}(t:TypeId)(r:Rp α):Prop:=
 P.cellsOf t=r.sz/\ ∀fuel cs x,DataW.trod enc P h2 0 (fun _=>true) true fuel t cs=some x-> ∃y,r.rc (N1 h2) cs y
def BT{α β:Type}{f:α->Option β}: ∀{l:List α} {r:List β},l.mapM f=some r->r.length=l.length/\ ∀(i:Nat) (x:α),l[i]? =some x-> ∃y,r[i]? =some y/\f x=some y
 |[],r,h=>by
  simp at h;subst h;exact⟨rfl,fun i x K=>by simp at K⟩
 |a::l,r,h=>by
  rw [List.mapM_cons]at h
  cases hf:f a with
  |none=>rw [hf]at h;simp at h
  |some b=>
   rw [hf]at h
   cases hm:l.mapM f with
   |none=>rw [hm]at h;simp at h
   |some r' =>
    rw [hm]at h;simp at h;subst h;obtain⟨H,W⟩:=BT hm;refine⟨by simp [H],fun i x K=>?_⟩
    cases i with
    |zero=>simp at K;subst K;exact⟨b,rfl,hf⟩
    |succ i=>exact W i x (by simpa using K)
def Fn{a:Addr}(h:h2.cell? a=some v):a.spot=none/\ ∃c E fr,h2.heap[a.block]? =some (.cells c E fr)/\c[a.off]? =some v:=by
 unfold World.cell? at h
 cases ho:h2.heap[a.block]? with
 |none=>rw [ho]at h;cases h
 |some o=>
  rw [ho]at h
  cases o with
  |cells c E fr=>
   simp only at h;by_cases hs:a.spot.isSome=true
   ·rw [bM hs]at h;cases h
   ·rw [bB hs]at h;exact⟨by cases hq:a.spot with
     |none=>rfl
     |some bx=>rw [hq]at hs;simp at hs,c,E,fr,rfl,h⟩
  |_=>simp at h
def KA(a:Addr):a.add 0=a:=by unfold Addr.add;rfl
def QZ(h:h2.cells? 0 ⟨b,off,none⟩ n=some cs)(hn:0<n): ∃c E fr,h2.heap[b]? =some (.cells c E fr)/\cs=(c.toList.drop off).take n:=by
 unfold World.cells? at h;rw [bM (mT _)]at h;obtain⟨H,W⟩:=BT h;obtain⟨v,_,hv⟩:=W 0 0 (by simp [hn]);obtain⟨_,c,E,fr,h3,h4⟩:=Fn hv;refine⟨c,E,fr,by simpa [Addr.add] using h3,?_⟩;apply List.ext_getElem?;intro i;have hl:cs.length=n:=by simpa using H
 by_cases hi:i<n
 ·obtain⟨v,h5,h6⟩:=W i i (by simp [hi]);obtain⟨_,c',E',fr',h7,h8⟩:=Fn h6;rw [kL]at h7 h8;have h7' :h2.heap[b]? =some (.cells c' E' fr'):=h7;have h3' :h2.heap[b]? =some (.cells c E fr):=by simpa [Addr.add] using h3
  rw [h3']at h7';injection h7' with h7';injection h7' with e1;subst e1;rw [h5,Cd hi,zb];simpa using h8.symm
 ·rw [GT (by omega),GT (by simp;omega)]
def S8{q:Rp α}{len:Nat}{a:Addr}{x:DataW h1×List MemPlace}(h0' :0<q.sz)(hq:ToR enc P h2 e q)(K:(let elemAt (i:Nat):Option (DataW h1×List MemPlace):=(h2.cells? 0 (a.add (i*P.cellsOf e)) (P.cellsOf e)).bind (DataW.trod enc P h2 0 (fun _=>true) true n e)
   if 0<=a.block/\len<=cap/\cap<=maxLen then
    ((List.range len).mapM elemAt).bind fun elems=>
     (if(fun _=>true) a.block then(List.range (cap-len)).mapM fun j=>elemAt (len+j)else some []).map fun rest=>
      (DataW.slice (elems.map (·.1)) (rest.map (·.1)),MemPlace.row a ((elems.length+rest.length)*P.cellsOf e)++(elems++rest).flatMap (·.2))
   else none)=some x): ∃y,(gE q).rc (N1 h2) [.slice (some a) len cap] y:=by
 simp only at K;split at K
 ·rename_i hcond;obtain⟨_,hle,hmax⟩:=hcond
  cases hm:(List.range len).mapM (fun i=>(h2.cells? 0 (a.add (i*P.cellsOf e)) (P.cellsOf e)).bind (DataW.trod enc P h2 0 (fun _=>true) true n e))with
  |none=>rw [hm]at K;simp at K
  |some elems=>
   obtain⟨hm1,hm2⟩:=BT hm;rw [hq.1]at hm2;by_cases hl0:len=0
   ·subst hl0;exact⟨[],some a,cap,rfl,mT _,hmax,.inl rfl⟩
   have hsp0:a.spot=none:=by
    obtain⟨z,_,hz⟩:=hm2 0 0 (by rw [List.getElem?_range (by omega)]);rw [Nat.zero_mul,KA]at hz
    cases hcs:h2.cells? 0 a q.sz with
    |none=>rw [hcs]at hz;simp at hz
    |some cs1=>
     unfold World.cells? at hcs;rw [bM (mT _)]at hcs;obtain⟨_,g2⟩:=BT hcs;obtain⟨v,_,hv⟩:=g2 0 0 (by simp [h0']);rw [KA]at hv;exact(Fn hv).1
   have hcell: ∀i,i<len-> ∃c E fr,a.spot=none/\h2.heap[a.block]? =some (.cells c E fr)/\ ∃y,q.rc (N1 h2) ((c.toList.drop (a.off+i*q.sz)).take q.sz) y:=by
    intro i hi;obtain⟨z,_,hz⟩:=hm2 i i (by simp [hi])
    cases hcs:h2.cells? 0 (a.add (i*q.sz)) q.sz with
    |none=>rw [hcs]at hz;simp at hz
    |some cs1=>
     rw [hcs]at hz;have hsp:a.spot=none:=hsp0;obtain⟨ab,ao,az⟩:=a;simp only at hsp;subst hsp;rw [kL]at hcs;obtain⟨c,E,fr,g1,g2⟩:=QZ hcs h0';obtain⟨y,hy⟩:=hq.2 n cs1 z hz;exact⟨c,E,fr,rfl,g1,y,by rw [<-g2];exact hy⟩
   obtain⟨c,E,fr,hsp,V,_⟩:=hcell 0 (by omega);have key: ∀m,m<=len-> ∃ys:List α,ys.length=m/\uI q (N1 h2) ((c.toList.drop a.off).take (m*q.sz)) ys:=by
    intro m
    induction m with
    |zero=>intro _;exact⟨[],rfl,by simp [uI]⟩
    |succ m ih=>
     intro hm';obtain⟨ys,hy1,hy2⟩:=ih (by omega);obtain⟨c',E',fr',_,hb',y,hy⟩:=hcell m (by omega);rw [V]at hb';injection hb' with hb';injection hb' with e1;subst e1;refine⟨ys++[y],by simp [hy1],?_⟩;have hsplit:(c.toList.drop a.off).take ((m+1)*q.sz)=(c.toList.drop a.off).take (m*q.sz)++(c.toList.drop (a.off+m*q.sz)).take q.sz:=by
      rw [Av,Nat.one_mul,List.take_add,uH]
     rw [hsplit];exact uU hy2 (PK.2 hy)
   obtain⟨ys,hy1,hy2⟩:=key len (kE _);obtain⟨ab,ao,az⟩:=a;simp only at hsp;subst hsp;exact⟨ys,some ⟨ab,ao,none⟩,cap,by rw [hy1],by omega,hmax,.inr ⟨ab,ao,c,E,fr,rfl,V,by rw [hy1];exact hy2⟩⟩
 ·cases K
def S7{t:TypeId}{q:Rp α}(h:P.underlying t=some (.slice e))(hc:P.cellsOf t=1)(h0:Nat.blt 0 q.sz=true)(hq:ToR enc P h2 e q):ToR enc P h2 t (gE q):=⟨hc,fun fuel cs x K=>by
 have h0' :0<q.sz:=by simpa [ye] using h0
 cases fuel with
 |zero=>simp [DataW.trod]at K
 |succ n=>
  unfold DataW.trod at K;rw [h]at K;split at K;all_goals try (injections;done)
  ·exact⟨[],none,0,rfl,kE _,mT _,.inl rfl⟩
  ·rename_i e' a len cap heq;injection heq with e1;injection e1 with e1;subst e1;exact S8 h0' hq K⟩
def Nr{t:TypeId}(h:ToR enc P h2 t r)(hag:r.agg=false){d:DataW h1}{ps:List MemPlace}(hv:DataW.Trod enc P h2 0 (fun _=>true) true t v d ps)(hc:v.cells= #[v]): ∃y,(tD r y).p (N1 h2) v:=by
 obtain⟨fuel,K⟩:=hv;rw [hc]at K;obtain⟨y,hy⟩:=h.2 _ _ _ K;exact⟨y,_,by unfold Rp.val;rw [hag];rfl,hy⟩
def OH{t:TypeId}(D:P.underlying t=some (.slice e))(hv:Value.okWide P h2 .any base t v):v.cells= #[v]:=by
 cases v<;>first|rfl|(simp [Value.okWide,D,Cell.okWide,Cell.ok]at hv)
def Mh{W' :World}(h:mi xM h2 S W' S'):Below h2.heap.size h2 W' :=⟨h.os,h.tape,h.output,h.size,fun k hk=>h.heap k hk (fun h=>h)⟩
def Co(hl:laidOutB P=true){h2 W' :World}(V:Below h2.heap.size h2 W'){sp:Nat->Bool}: ∀{ts:List TypeId} {vs:List Value} {ds:List (DataW h1)} {ps:List MemPlace},(∀t∈ts,P.readableRec t=true/\t<P.types.size)->
  DataW.TrodAll enc P h2 0 (fun _=>true) true ts vs ds ps->(∀p∈ps,p.block<h2.heap.size)->(∀p∈ps,sp p.block=true)->DataW.TrodAll enc P W' 0 sp true ts vs ds ps
 |[],[],[],_,_,h,_,_=>h
 |t::ts,v::vs,d::ds,_,hr,⟨p,q,H,W,e⟩,hlt,hsp=>by
  subst e;have D:=hr t (jO ..);exact⟨p,q,WideElems.Trod_stays hl D.1 D.2 H (fun x K=>V.same (hlt x (GS _ K))) (fun x K=>hsp x (GS _ K)),
   Co hl V (fun t D=>hr t (kX _ D)) W (fun x K=>hlt x (List.mem_append_right _ K)) (fun x K=>hsp x (List.mem_append_right _ K)),rfl⟩
def V0{f:Func}{bx:ChangeSpec}{apart fresh handsOn again:Bool}{W' :World}{args:Array Value}{ds gs:List (DataW h1)}{before:List MemPlace}{tb:TypeId}(hl:laidOutB P=true)(hr: ∀t∈f.params.toList,P.readableRec t=true/\t<P.types.size)(hvs:bx.vars=[])(hres:f.resultTypes= #[tb])(htb:P.underlying tb=some .bool)(hW:DataW.Whole enc P f.params.toList bx.vars apart h2 args.toList ds gs before)(hs:bx.fn h1 (ds++gs)={results:=[.lit (.bool true)],args:=ds})(V:Below h2.heap.size h2 W'):
  bx.post enc P f apart fresh handsOn again h2 args (.bool true) W' :=by
 have hW0:=hW;have hlt:=hW.lt;obtain⟨pa,pv,hA,hV,rfl,hz,hn⟩:=hW;rw [hvs]at hV;have hpv:pv=[]:=by
  cases gs with
  |nil=>exact hV
  |cons g gs=>exact hV.elim
 subst hpv;have hlt' : ∀p∈pa,p.block<h2.heap.size:=fun p hp=>hlt p (by simpa using hp);have hargs: ∀sp:Nat->Bool,(∀p∈pa,sp p.block=true)->DataW.TrodAll enc P W' 0 sp true f.params.toList args.toList ds pa:=fun sp hsp=>Co hl V hr hA hlt' hsp;have hresT: ∀(b:Nat) (sp:Nat->Bool) (hd:Bool),DataW.TrodAll enc P W' b sp hd f.resultTypes.toList ((Value.bool true).resultList f.resultTypes.size) [.lit (.bool true)] []:=fun b sp hd=>by
  rw [hres];exact⟨[],[],⟨1,by simp [DataW.trod,htb,Value.cells]⟩,rfl,rfl⟩
 have hvT: ∀sp:Nat->Bool,DataW.TrodVars enc P W' sp bx.vars (bx.fn h1 (ds++gs)).vars []:=fun sp=>by
  rw [hvs,hs];rfl
 have hargs' : ∀sp:Nat->Bool,(∀p∈pa,sp p.block=true)->DataW.TrodAll enc P W' 0 sp true f.params.toList args.toList (bx.fn h1 (ds++gs)).args pa:=fun sp hsp=>by rw [hs];exact hargs sp hsp
 have hres' : ∀(b:Nat) (sp:Nat->Bool) (hd:Bool),DataW.TrodAll enc P W' b sp hd f.resultTypes.toList ((Value.bool true).resultList f.resultTypes.size) (bx.fn h1 (ds++gs)).results []:=fun b sp hd=>by rw [hs];exact hresT b sp hd
 have hold: ∀p∈pa,(fun b=>decide (b<h2.heap.size)) p.block=true:=fun p hp=>by simpa using hlt' p hp
 refine⟨ds,gs,pa++[],[],pa,[],hW0,hres' _ _ _,hargs' _ hold,hvT _,World.keptBut_mono (fun p hp=>⟨hp,?_⟩) (V.frame _),fun _=>?_⟩
 ·right;simpa using hp
 ·refine⟨?_,_,_,([]++pa)++[],⟨[]++pa,[],trodAll_append (hargs' _ (fun _ _=>rfl)) (hres' _ _ _),hvT _,rfl,?_,?_⟩,?_⟩
  ·intro j t r H W;rw [hres]at H W
   cases j with
   |zero=>
    simp [Value.resultList]at H W;subst H W;simp [Value.okWide,htb,Cell.okWide,Cell.ok]
   |succ j=>simp at H
  ·intro b off hp;have hp' :MemPlace.cell b off∈pa:=by simpa using hp
   have:=hlt' _ hp';rw [V.frozen (p:=⟨b,off,none⟩) this];exact hz b off (by simpa using hp')
  ·intro ha;have:=hn ha;simpa using this
  ·intro p hp _;simpa using hp
end
section
def rOk{α:Type}(r:Rp α)(ok:α->Prop):Rp α where
 sz:=r.sz
 agg:=r.agg
 rc:=fun S cs x=>r.rc S cs x/\ok x
 mono:=fun h k=>⟨r.mono h k.1,k.2⟩
 len:=fun k=>r.len k.1
 one:=fun k=>r.one k.1
 sc:=r.sc
def inK(k:IntKind)(n:Int):Prop:=k.min<=n/\n<=k.max
def inL{α:Type}(ok:α->Prop)(xs:List α):Prop:=xs.length<=maxLen/\ ∀x∈xs,ok x
def Vj{t:TypeId}(h:P.underlying t=some (.int k))(hc:P.cellsOf t=1):ToR enc P h2 t (rOk (rI k) (inK k)):=⟨hc,fun fuel cs x K=>by
 cases fuel with
 |zero=>simp [DataW.trod]at K
 |succ n=>
  unfold DataW.trod at K;rw [h]at K;split at K;all_goals try (injections;done)
  ·rename_i k1 k2 m heq;injection heq with e;injection e with e;subst e;split at K
   ·rename_i W;obtain⟨rfl,h3⟩:=W;simp only [Lit.wf,nw,mS]at h3;exact⟨m,rfl,h3⟩
   ·cases K⟩
def Ref{α:Type}(r' r:Rp α)(ok:α->Prop):Prop:=r'.sz=r.sz/\r'.agg=r.agg/\ ∀S cs x,r'.rc S cs x->r.rc S cs x/\ok x
def abc:Ref (rOk r ok) r ok:=⟨rfl,rfl,fun _ _ _ h=>h⟩
def RC{α:Type}{r' r:Rp α}{ok:α->Prop}(h:Ref r' r ok){S:SH}: ∀{xs:List α} {cs:List Value},uI r' S cs xs->uI r S cs xs/\ ∀x∈xs,ok x
 |[],_,k=>⟨k,fun x K=>by cases K⟩
 |x::xs,_,⟨a,b,e,H,W⟩=>by
  obtain⟨g1,g2⟩:=h.2.2 _ _ _ H;obtain⟨g3,g4⟩:=RC h W;exact⟨⟨a,b,e,g1,g3⟩,fun y hy=>by
   rcases ll.1 hy with rfl|hy
   ·exact g2
   ·exact g4 y hy⟩
def abb{r' :Rp α}(h:Ref r' r ok):Ref (gE r') (gE r) (inL ok):=⟨rfl,rfl,fun S cs xs ⟨a,cap,e,H,W,h3⟩=>by
 rcases h3 with h3|⟨b,off,c,E,fr,e1,e2,e3⟩
 ·exact⟨⟨a,cap,e,H,W,.inl h3⟩,by omega,fun x K=>by rw [h3]at K;cases K⟩
 ·rw [h.1]at e3;obtain⟨g1,g2⟩:=RC h e3;exact⟨⟨a,cap,e,H,W,.inr ⟨b,off,c,E,fr,e1,e2,g1⟩⟩,by omega,g2⟩⟩
def aaa{t:TypeId}{r' :Rp α}(h:ToR enc P h2 t r')(hr:Ref r' r ok)(hag:r.agg=false){d:DataW h1}{ps:List MemPlace}(hv:DataW.Trod enc P h2 0 (fun _=>true) true t v d ps)(hc:v.cells= #[v]): ∃y,(tD r y).p (N1 h2) v/\ok y:=by
 obtain⟨y,cs,e,hy⟩:=Nr h (by rw [hr.2.1];exact hag) hv hc;obtain⟨g1,g2⟩:=hr.2.2 _ _ _ hy;exact⟨y,⟨cs,by rw [e];unfold Rp.val;rw [hr.2.1],g1⟩,g2⟩
end
section
variable{held:Bool}
end
def Nu{α:Type}{r:Rp α}(hfree: ∀{S S' :SH} {cs:List Value} {x:α},r.rc S cs x->r.rc S' cs x){S S' :SH}: ∀{xs:List α} {cs:List Value},uI r S cs xs->uI r S' cs xs
 |[],_,h=>h
 |_::_,_,h=>by
  obtain⟨ds,es,H,W,h3⟩:=h;exact⟨ds,es,H,hfree W,Nu hfree h3⟩
def afP{l:Option Nat}(h:Dj mm r T l cap xs w S)(hs:oF w S): ∃S1,SH.le S S1/\oF w S1/\(tD (gE r) xs).p S1 (aI l cap xs.length):=by
 cases mm with
 |true=>exact⟨S,SH.le_refl _,hs,pN h⟩
 |false=>
  obtain⟨cells,H,W,h3⟩:=h
  cases l with
  |none=>exact⟨S,SH.le_refl _,hs,pN (T:=T) ⟨cells,H,W,fun b V=>(by cases V)⟩⟩
  |some b=>
   obtain⟨cur,g1,g2,g3,g4,g5⟩:=H;have hoo:MA (.cells cells.toArray T (0,0)) (.cells cur T (0,0)):=by
    refine⟨cur.toList.drop (xs.length*r.sz),?_⟩;congr 1;apply Array.ext';rw [<-g5,vX]
   have hn:S b=none:=h3 b rfl;have hle:SH.le S (S.set b (.cells cells.toArray T (0,0))):=yV fun q hq=>(by rw [hn]at hq;cases hq);have hsat:oF w (S.set b (.cells cells.toArray T (0,0))):=hs.set g1 hoo fun q hq=>by rw [hn]at hq;cases hq
   refine⟨_,hle,hsat,pN (T:=T) ⟨cells,⟨cur,g1,g2,g3,g4,g5⟩,vA hle W,fun b' hb' =>?_⟩⟩;have hb2:b=b' :=uK hb';subst hb2;exact pi _ _ _
section
variable{ty:TypeId}
def G0{S1:SH}{vs:List Value}(h:t.p S1 v)(k:Au S1 ts vs):Au S1 (t::ts) (v::vs):=⟨h,k⟩
def ac8{G:ou}{x:Operand}{S1:SH}(h:bk N G x t)(hf:cD N S a G)(hle:SH.le S S1):t.p S1 (a.eval x):=t.mono hle (h S a hf)
def XU{b:Bool}(S S' :SH)(v:Value)(h:(tD rB b).p S v):(tD rB b).p S' v:=ko.2 (ko.1 h)
end
section
variable{ty:TypeId}
def hH{y:α}{x:Operand}(hag:r.agg=true)(hr: ∀S,r.rc S [v] y)(h:bk N G x (Q (.agg #[v]))):bk N G x (tD r y):=fun S a hf=>⟨[v],by rw [Rp.val,bM hag];exact h S a hf,hr S⟩
end
section
variable{N:Nat}{w0:World}{S0:SH}{O1:List OE}{ι:Type}{t:ι->Ty}{O2:ι->List OE}
end
section
variable{c:Code}
end
section
variable{ty:TypeId}
end
section
variable{ty:TypeId}
end
def J{α:Sort _}{a:α}:a=a:=rfl
def aV:True:=trivial
abbrev bI(x:Int):Ty:=tD (rI .i64) x
abbrev fU(x:Bool):Ty:=tD rB x
abbrev mR{α:Type}(l:List α):Ty:=tD (rI .i64) (l.length:Int)
abbrev oH:Rp (List Int):=gE (rI .i64)
abbrev lk(l:List Int):Ty:=tD (gE (rI .i64)) l
abbrev ek{α:Type}(r:Rp α)(l:List α):Ty:=tD (gE r) l
abbrev oI{α:Type}(l:Option Nat)(c:Nat)(xs:List α):Ty:=Q (aI l c xs.length)
def aX: ∀{G' G:ou},G'.map (fun p=>cX G p.1)=G'.map (fun p=>some p.2)->Tf G' G
 |[],_,_=>trivial
 |(_,_)::_,_,h=>⟨(Dn h).1,aX (Dn h).2⟩
variable{ix:Nat}{xt:TypeId}
section
variable{ty:TypeId}
def ki(h:cX G x=some t):dw E aO G ⟨dst,.move (.tmp x),ty,pos,after,g⟩ t:=cB (D h)
def CO(h:cX G x=some t):dw E aO G ⟨dst,.assign (.tmp x),ty,pos,after,g⟩ t:=cg (D h)
def zai{n:Int}:dw E aO G ⟨dst,.assign (.const (.int k n)),ty,pos,after,g⟩ (tD (rI k) n):=cg hI
def zab{b:Bool}:dw E aO G ⟨dst,.assign (.const (.bool b)),ty,pos,after,g⟩ (tD rB b):=cg hB
def CM{x:α}{p:Nat}(ti:TI E.P U sz bytes agg z)(hp:cX G p=some (da r x))(hs:(r.sz,r.agg)=(sz,agg)):
  dw E aO G ⟨dst,.load U (.tmp p),ty,pos,after,g⟩ (tD r x):=fC ti (y9 hs).1 (y9 hs).2 (D hp)
def sP{get:α->β}{x:α}{i:Nat}{p:Nat}(hf:cq E.P T i=some (off,sz))(hq:lO r off q get)(hp:cX G p=some (da r x))(h0:(!(Nat.beq sz 0)&&Nat.ble (off+q.sz) r.sz)=true):dw E aO G ⟨dst,.fieldAddr T (.tmp p) i,ty,pos,after,g⟩ (da q (get x)):=
 eg hf (by cases h:Nat.beq sz 0<;>simp [h]at h0 ⊢) hq (by revert h0;cases Nat.ble (off+q.sz) r.sz<;>simp) (D hp)
def zln{t:TypeId}(hu:E.P.underlying t=some (.slice e))(K:cX G x=some (tD (gE r) xs)):
  dw E aO G ⟨dst,.call ⟨.builtin .len,#[.tmp x],#[t]⟩,ty,pos,after,g⟩ (tD (rI .i64) (xs.length:Int)):=fK hu (D K)
def GW{i:Nat}(hi:ts[i]? =some t)(K:cX G x=some (tT ts)):dw E aO G ⟨dst,.extract (.tmp x) i,ty,pos,after,g⟩ t:=Qa hi (D K)
def zbx{v:α}(K:cX G x=some (tD r v)):dw E aO G ⟨dst,.box T (.tmp x),ty,pos,after,g⟩ (da r v):=VL (D K)
def UK{b q:Bool}(hc:cX G c=some (tD rB b))(K:cX G x=some (rM b (tD rB q))):dw E aO G ⟨dst,.pick (.tmp c) (.tmp x) (.const (.bool false)),ty,pos,after,g⟩ (tD rB (b&&q)):=j3 (D hc) (fun V=>bg K V)
def zpo{b q:Bool}(hc:cX G c=some (tD rB b))(K:cX G x=some (rM (!b) (tD rB q))):dw E aO G ⟨dst,.pick (.tmp c) (.const (.bool true)) (.tmp x),ty,pos,after,g⟩ (tD rB (b||q)):=ke (D hc) (fun V=>bg K (sL V))
variable{y:Nat}{m n:Int}
def zlt(K:cX G x=some (tD (rI k) m))(hy:cX G y=some (tD (rI k) n)):dw E aO G ⟨dst,.binOp .lss xt (.tmp x) (.tmp y) yt,ty,pos,after,g⟩ (tD rB (decide (m<n))):=eC (D K) (D hy)
def zei(K:cX G x=some (tD (rI j) m)):dw E aO G ⟨dst,.binOp .eql xt (.tmp x) (.const (.int j n)) yt,ty,pos,after,g⟩ (tD rB (m==n)):=dW (D K) hI
def zni(K:cX G x=some (tD (rI j) m)):dw E aO G ⟨dst,.binOp .neq xt (.tmp x) (.const (.int j n)) yt,ty,pos,after,g⟩ (tD rB (m !=n)):=dc (D K) hI
def Aq{y:α}{x:Nat}{t:TypeId}{k:IntKind}{i:Int}(hu:E.P.underlying t=some (.slice e))(ti:TI E.P e sz bytes agg z)(hsz:r.sz=sz)(K:cX G x=some (tD (gE r) xs))(hi:cX G ix=some (tD (rI k) i))(hy:gw xs i=some y):
  dw E aO G ⟨dst,.indexAddr t (.tmp x) (.tmp ix),ty,pos,after,g⟩ (da r y):=dV hu ti hsz (D K) (D hi) hy
def zin{i:Nat}{x:Nat}{xt yt:TypeId}(hi:i<9223372036854775807)(K:cX G x=some (tD (rI .i64) (i:Int))):
  dw E aO G ⟨dst,.binOp .add xt (.tmp x) (.const (.int .i64 1)) yt,ty,pos,after,g⟩ (tD (rI .i64) ((i+1:Nat):Int)):=BQ hi (D K) hI
def pL{i o:Nat}{p:Nat}(n:Nat)(hf:cq E.P T i=some (off,sz))(h0:Nat.beq sz 0=false)(hp:cX G p=some (Q (M b o)))(he:o+off=n):dw E aO G ⟨dst,.fieldAddr T (.tmp p) i,ty,pos,after,g⟩ (Q (M b n)):=bY (n:=n) hf h0 (D hp) he
end
section
variable{l:List Oper}
def zo{ty:TypeId}(hd:Nat.blt d E.N.n=true)(h:dw E aO G ⟨some d,op,ty,pos,after,none⟩ t)(k:RG E ops tV l aO ((d,t)::G)):
  RG E ops tV (⟨some d,op,ty,pos,after,none⟩::l) aO G:=OQ h hd k
def w7(n d:Nat)(r:Option Ty):Option Ty:=if Nat.blt d n then r else none
def ep{r:Option Ty}(h:w7 n d r=some t):Nat.blt d n=true/\r=some t:=by
 unfold w7 at h;split at h
 case isTrue H=>exact⟨H,h⟩
 case isFalse=>cases h
def Z{ty:TypeId}(h:w7 E.N.n d (cX G x)=some t)(k:RG E ops tV l aO ((d,t)::G)):
  RG E ops tV (⟨some d,.move (.tmp x),ty,pos,after,none⟩::l) aO G:=OQ (cB (D (ep h).2)) (ep h).1 k
def dM{ty:TypeId}(h:w7 E.N.n d (cX G x)=some t)(k:RG E ops tV l aO ((d,t)::G)):
  RG E ops tV (⟨some d,.assign (.tmp x),ty,pos,after,none⟩::l) aO G:=OQ (cg (D (ep h).2)) (ep h).1 k
def bC(h:CG E tV y aO G):RG E ops (Exit.then (y.wpIn (fw E.r) 0 E.P tV) tV) [] aO G:=aJ (an h)
def O{id:Nat}{l:List Oper}(h:RG E l.toArray (Exit.then (y.wpIn (fw E.r) 0 E.P tV) tV) l aO G):CG E tV (.seq (.region id l.toArray false) y) aO G:=aS (ai h)
def fz{β:Type _}{aa hg:Option β}{r:β}{x:Code}{b:Bool}(h:(if b=true then aa else hg)=some r)(V:cX G c=some (tD rB b))(K:aa=some r->CG E tV x aO G)(hy:hg=some r->CG E tV y aO G):CG E tV (.cond (.tmp c) x y) aO G:=
 uG (D V) (fun hc=>K (ct h hc)) (fun hc=>hy (cf h hc))
def fy(h:CG E tV y aO G):CG E (Exit.then (y.wpIn (fw E.r) 0 E.P tV) tV) .skip aO G:=aW (an h)
def zgt{j gs:Nat}{b:Bool}{ty:TypeId}(hj:(ops[j]?).bind (·.dst)=some gs)(Y:w7 E.N.n gs (w7 E.N.n d (cX G gs))=some (tD rB b))(h:b=true->dw E aO G ⟨some d,op,ty,pos,after,some (j,true)⟩ t)(k:RG E ops tV l aO ((d,rM b t)::G)):RG E ops tV (⟨some d,op,ty,pos,after,some (j,true)⟩::l) aO G:=aad hj (ep Y).1 (ep (ep Y).2).2 (ep (ep Y).2).1 h k
def zgf{j gs:Nat}{b:Bool}{ty:TypeId}(hj:(ops[j]?).bind (·.dst)=some gs)(Y:w7 E.N.n gs (w7 E.N.n d (cX G gs))=some (tD rB b))(h:(!b)=true->dw E aO G ⟨some d,op,ty,pos,after,some (j,false)⟩ t)(k:RG E ops tV l aO ((d,rM (!b) t)::G)):RG E ops tV (⟨some d,op,ty,pos,after,some (j,false)⟩::l) aO G:=aae hj (ep Y).1 (ep (ep Y).2).2 (ep (ep Y).2).1 h k
end
def bR{α:Type _}{β:Type _}{x:Option α}{k:α->Option β}{r:β}{P:Prop}(h:x.bind k=some r)(f: ∀y,x=some y->k y=some r->P):P:=by
 obtain⟨y,H,W⟩:=bs h;exact f y H W
variable{u1:Ty}
section
variable{l:List Oper}{i:Nat}
def Gq{a b c:Bool}(h:(a&&b&&c)=true):a=true/\b=true/\c=true:=by revert h;cases a<;>cases b<;>cases c<;>simp
def isn{x:Option α}(h:x.isNone=true):x=none:=by cases x;rfl;cases h
def zd0(h:ts[i]? =some t)(k:dw E aO [] o t)(V:(gr i o&&o.guard.isNone)=true:=by exact rfl): ∃(needs:List Nd) (t:Ty),ts[i]? =some t/\vJ G ts needs/\(needs.all (sH l o i))=true/\gr i o=true/\cr E aO l.toArray (lg needs) o t:=
 ⟨[],t,h,trivial,rfl,(FB.1 V).1,af (isn (FB.1 V).2) k⟩
def Dm(a:Nat)(h:ts[i]? =some t)(hu:Ci G ts ⟨a,u,none⟩)(k:dw E aO [(a,u)] o t)(V:([(⟨a,u,none⟩:Nd)].all (sH l o i)&&gr i o&&o.guard.isNone)=true:=by exact rfl): ∃(needs:List Nd) (t:Ty),ts[i]? =some t/\vJ G ts needs/\(needs.all (sH l o i))=true/\gr i o=true/\cr E aO l.toArray (lg needs) o t:=
 ⟨[(⟨a,u,none⟩:Nd)],t,h,⟨hu,trivial⟩,(Gq V).1,(Gq V).2.1,af (isn (Gq V).2.2) k⟩
def eS(a:Nat)(j:Nat)(h:ts[i]? =some t)(hu:Ci G ts ⟨a,u,(some j)⟩)(k:dw E aO [(a,u)] o t)(V:([(⟨a,u,(some j)⟩:Nd)].all (sH l o i)&&gr i o&&o.guard.isNone)=true:=by exact rfl): ∃(needs:List Nd) (t:Ty),ts[i]? =some t/\vJ G ts needs/\(needs.all (sH l o i))=true/\gr i o=true/\cr E aO l.toArray (lg needs) o t:=
 ⟨[(⟨a,u,(some j)⟩:Nd)],t,h,⟨hu,trivial⟩,(Gq V).1,(Gq V).2.1,af (isn (Gq V).2.2) k⟩
def XN(a:Nat)(a1:Nat)(j1:Nat)(h:ts[i]? =some t)(hu:Ci G ts ⟨a,u,none⟩)(hu1:Ci G ts ⟨a1,u1,(some j1)⟩)(k:dw E aO [(a,u),(a1,u1)] o t)(V:([(⟨a,u,none⟩:Nd),⟨a1,u1,(some j1)⟩].all (sH l o i)&&gr i o&&o.guard.isNone)=true:=by exact rfl): ∃(needs:List Nd) (t:Ty),ts[i]? =some t/\vJ G ts needs/\(needs.all (sH l o i))=true/\gr i o=true/\cr E aO l.toArray (lg needs) o t:=
 ⟨[(⟨a,u,none⟩:Nd),⟨a1,u1,(some j1)⟩],t,h,⟨hu,hu1,trivial⟩,(Gq V).1,(Gq V).2.1,af (isn (Gq V).2.2) k⟩
def te(a:Nat)(a1:Nat)(j1:Nat)(h:ts[i]? =some t)(hu:Ci G ts ⟨a,u,none⟩)(hu1:Ci G ts ⟨a1,u1,(some j1)⟩)(k:cr E aO l.toArray [(a,u),(a1,u1)] o t)(V:([(⟨a,u,none⟩:Nd),⟨a1,u1,(some j1)⟩].all (sH l o i)&&gr i o)=true:=by exact rfl): ∃(needs:List Nd) (t:Ty),ts[i]? =some t/\vJ G ts needs/\(needs.all (sH l o i))=true/\gr i o=true/\cr E aO l.toArray (lg needs) o t:=
 ⟨[(⟨a,u,none⟩:Nd),⟨a1,u1,(some j1)⟩],t,h,⟨hu,hu1,trivial⟩,(FB.1 V).1,(FB.1 V).2,k⟩
def fR(a:Nat)(j:Nat)(a1:Nat)(j1:Nat)(h:ts[i]? =some t)(hu:Ci G ts ⟨a,u,(some j)⟩)(hu1:Ci G ts ⟨a1,u1,(some j1)⟩)(k:dw E aO [(a,u),(a1,u1)] o t)(V:([(⟨a,u,(some j)⟩:Nd),⟨a1,u1,(some j1)⟩].all (sH l o i)&&gr i o&&o.guard.isNone)=true:=by exact rfl): ∃(needs:List Nd) (t:Ty),ts[i]? =some t/\vJ G ts needs/\(needs.all (sH l o i))=true/\gr i o=true/\cr E aO l.toArray (lg needs) o t:=
 ⟨[(⟨a,u,(some j)⟩:Nd),⟨a1,u1,(some j1)⟩],t,h,⟨hu,hu1,trivial⟩,(Gq V).1,(Gq V).2.1,af (isn (Gq V).2.2) k⟩
def iX(a:Nat)(j:Nat)(a1:Nat)(j1:Nat)(h:ts[i]? =some t)(hu:Ci G ts ⟨a,u,(some j)⟩)(hu1:Ci G ts ⟨a1,u1,(some j1)⟩)(k:cr E aO l.toArray [(a,u),(a1,u1)] o t)(V:([(⟨a,u,(some j)⟩:Nd),⟨a1,u1,(some j1)⟩].all (sH l o i)&&gr i o)=true:=by exact rfl): ∃(needs:List Nd) (t:Ty),ts[i]? =some t/\vJ G ts needs/\(needs.all (sH l o i))=true/\gr i o=true/\cr E aO l.toArray (lg needs) o t:=
 ⟨[(⟨a,u,(some j)⟩:Nd),⟨a1,u1,(some j1)⟩],t,h,⟨hu,hu1,trivial⟩,(FB.1 V).1,(FB.1 V).2,k⟩
def AC(a:Nat)(j:Nat)(a1:Nat)(j1:Nat)(a2:Nat)(j2:Nat){u2:Ty}(h:ts[i]? =some t)(hu:Ci G ts ⟨a,u,(some j)⟩)(hu1:Ci G ts ⟨a1,u1,(some j1)⟩)(hu2:Ci G ts ⟨a2,u2,(some j2)⟩)(k:cr E aO l.toArray [(a,u),(a1,u1),(a2,u2)] o t)(V:([(⟨a,u,(some j)⟩:Nd),⟨a1,u1,(some j1)⟩,⟨a2,u2,(some j2)⟩].all (sH l o i)&&gr i o)=true:=by exact rfl): ∃(needs:List Nd) (t:Ty),ts[i]? =some t/\vJ G ts needs/\(needs.all (sH l o i))=true/\gr i o=true/\cr E aO l.toArray (lg needs) o t:=
 ⟨[(⟨a,u,(some j)⟩:Nd),⟨a1,u1,(some j1)⟩,⟨a2,u2,(some j2)⟩],t,h,⟨hu,hu1,hu2,trivial⟩,(FB.1 V).1,(FB.1 V).2,k⟩
end
def Ac{r bx:Option Ty}(h:(w7 n d r,bx)=(some t,some u)):Nat.blt d n=true/\r=some t/\bx=some u:=
 ⟨(ep (y9 h).1).1,(ep (y9 h).1).2,(y9 h).2⟩
def aal(G:ou):Operand->Option Ty
 | .tmp k=>cX G k
 | .const (.int k n)=>some (tD (rI k) n)
 | .const (.bool b)=>some (tD rB b)
 |_=>none
def Pm: ∀{x:Operand},aal G x=some t->bk N G x t
 | .tmp _,h=>D h
 | .const (.int _ _),h=>by cases h;exact hI
 | .const (.bool _),h=>by cases h;exact hB
def co{N:Fr}{G:ou}: ∀{xs:List Operand} {ts:List Ty},xs.map (aal G)=ts.map some->nD N G xs ts
 |[],[],_=>trivial
 |_::_,_::_,h=>⟨Pm (Dn h).1,co (Dn h).2⟩
variable{after2:Array Edge}{d2 id' :Nat}{pos2:String}{tl:List α}{ty2:TypeId}
section
variable{l:List Oper}{ty:TypeId}
def X(h:dw E aO G ⟨some d,op,ty,pos,after,none⟩ t)(k:RG E ops tV l aO ((d,t)::G))(hd:Nat.blt d E.N.n=true:=by exact rfl):
  RG E ops tV (⟨some d,op,ty,pos,after,none⟩::l) aO G:=OQ h hd k
def eb{x:α}{p:Nat}(ti:TI E.P U sz bytes agg z)(hp:w7 E.N.n d (cX G p)=some (da r x))(k:RG E ops tV l aO ((d,tD r x)::G))(hs:(r.sz,r.agg)=(sz,agg):=by exact rfl):RG E ops tV (⟨some d,.load U (.tmp p),ty,pos,after,none⟩::l) aO G:=zo (ep hp).1 (CM ti (ep hp).2 hs) k
def qX{get:α->β}{x:α}{i:Nat}{p:Nat}(hf:cq E.P T i=some (off,sz))(hq:lO r off q get)(hp:w7 E.N.n d (cX G p)=some (da r x))(k:RG E ops tV l aO ((d,da q (get x))::G))(h0:(!(Nat.beq sz 0)&&Nat.ble (off+q.sz) r.sz)=true:=by exact rfl):
  RG E ops tV (⟨some d,.fieldAddr T (.tmp p) i,ty,pos,after,none⟩::l) aO G:=zo (ep hp).1 (sP hf hq (ep hp).2 h0) k
def aU{get:α->β}{x:α}{i s2:Nat}{p p2:Nat}(hf:cq E.P T i=some (off,sz))(hq:lO r off q get)(ti:TI E.P U s2 bytes agg z)(hp:w7 E.N.n d (cX G p)=some (da r x))(k:RG E ops tV l aO ((d2,tD q (get x))::(d,da q (get x))::G))(h0:(!(Nat.beq sz 0)&&Nat.ble (off+q.sz) r.sz)=true:=by exact rfl)(hp2:w7 E.N.n d2 (cX ((d,da q (get x))::G) p2)=some (da q (get x)):=by exact rfl)(hs:(q.sz,q.agg)=(s2,agg):=by exact rfl):
  RG E ops tV (⟨some d,.fieldAddr T (.tmp p) i,ty,pos,after,none⟩::⟨some d2,.load U (.tmp p2),ty2,pos2,after2,none⟩::l) aO G:=qX hf hq hp (eb ti hp2 k hs) h0
def aR{i o:Nat}{p:Nat}(n:Nat)(hf:cq E.P T i=some (off,sz))(hp:w7 E.N.n d (cX G p)=some (Q (M b o)))(k:RG E ops tV l aO ((d,Q (M b n))::G))(h0:Nat.beq sz 0=false:=by exact rfl)(he:o+off=n:=by exact rfl):RG E ops tV (⟨some d,.fieldAddr T (.tmp p) i,ty,pos,after,none⟩::l) aO G:=zo (ep hp).1 (pL n hf h0 (ep hp).2 he) k
def dJ{i:Nat}(K:w7 E.N.n d (cX G x)=some (tT ts))(hi:ts[i]? =some t)(k:RG E ops tV l aO ((d,t)::G)):RG E ops tV (⟨some d,.extract (.tmp x) i,ty,pos,after,none⟩::l) aO G:=zo (ep K).1 (GW hi (ep K).2) k
def bP{n:Int}(k:RG E ops tV l aO ((d,tD (rI j) n)::G))(hd:Nat.blt d E.N.n=true:=by exact rfl):RG E ops tV (⟨some d,.assign (.const (.int j n)),ty,pos,after,none⟩::l) aO G:=zo hd zai k
def bo{b:Bool}(k:RG E ops tV l aO ((d,tD rB b)::G))(hd:Nat.blt d E.N.n=true:=by exact rfl):RG E ops tV (⟨some d,.assign (.const (.bool b)),ty,pos,after,none⟩::l) aO G:=zo hd zab k
def bX(hu:E.P.underlying st=some (.slice e))(K:w7 E.N.n d (cX G x)=some (tD (gE r) xs))(k:RG E ops tV l aO ((d,tD (rI .i64) (xs.length:Int))::G)):
  RG E ops tV (⟨some d,.call ⟨.builtin .len,#[.tmp x],#[st]⟩,ty,pos,after,none⟩::l) aO G:=zo (ep K).1 (zln hu (ep K).2) k
def eH{v:α}(K:w7 E.N.n d (cX G x)=some (tD r v))(k:RG E ops tV l aO ((d,da r v)::G)):RG E ops tV (⟨some d,.box T (.tmp x),ty,pos,after,none⟩::l) aO G:=zo (ep K).1 (zbx (ep K).2) k
def cm{b q:Bool}(h:(w7 E.N.n d (cX G c),cX G x)=(some (tD rB b),some (rM b (tD rB q))))(k:RG E ops tV l aO ((d,tD rB (b&&q))::G)):
  RG E ops tV (⟨some d,.pick (.tmp c) (.tmp x) (.const (.bool false)),ty,pos,after,none⟩::l) aO G:=zo (Ac h).1 (UK (Ac h).2.1 (Ac h).2.2) k
def dG{b q:Bool}(h:(w7 E.N.n d (cX G c),cX G x)=(some (tD rB b),some (rM (!b) (tD rB q))))(k:RG E ops tV l aO ((d,tD rB (b||q))::G)):
  RG E ops tV (⟨some d,.pick (.tmp c) (.const (.bool true)) (.tmp x),ty,pos,after,none⟩::l) aO G:=zo (Ac h).1 (zpo (Ac h).2.1 (Ac h).2.2) k
section
variable{y:Nat}{m n:Int}
def im(h:(w7 E.N.n d (cX G x),cX G y)=(some (tD (rI j) m),some (tD (rI j) n)))(k:RG E ops tV l aO ((d,tD rB (decide (m<n)))::G)):
  RG E ops tV (⟨some d,.binOp .lss xt (.tmp x) (.tmp y) yt,ty,pos,after,none⟩::l) aO G:=zo (Ac h).1 (zlt (Ac h).2.1 (Ac h).2.2) k
def bl(K:w7 E.N.n d (cX G x)=some (tD (rI j) m))(k:RG E ops tV l aO ((d,tD rB (m==n))::G)):RG E ops tV (⟨some d,.binOp .eql xt (.tmp x) (.const (.int j n)) yt,ty,pos,after,none⟩::l) aO G:=zo (ep K).1 (zei (ep K).2) k
def mV(K:w7 E.N.n d (cX G x)=some (tD (rI j) m))(k:RG E ops tV l aO ((d,tD rB (m !=n))::G)):RG E ops tV (⟨some d,.binOp .neq xt (.tmp x) (.const (.int j n)) yt,ty,pos,after,none⟩::l) aO G:=zo (ep K).1 (zni (ep K).2) k
def iq{c:Bool}(K:cX G x=some (rM c (tD (rI j) m)))(hc:c=true):dw E aO G ⟨dst,.binOp .eql xt (.tmp x) (.const (.int j n)) yt,ty,pos,after,g⟩ (tD rB (m==n)):=dW (bg K hc) hI
def ud{c:Bool}(K:cX G x=some (rM c (tD (rI j) m)))(hc:c=true):dw E aO G ⟨dst,.binOp .neq xt (.tmp x) (.const (.int j n)) yt,ty,pos,after,g⟩ (tD rB (m !=n)):=dc (bg K hc) hI
def gk{i a id:Nat}{z w:Code}(K:xs.drop i=[])(h:(w7 E.N.n d (cX G a),cX G b)=(some (tD (rI .i64) (i:Int)),some (tD (rI .i64) (xs.length:Int))))(k:AT E tV .normal aO ((d,tD rB (decide ((i:Int)<(xs.length:Int))))::G))(hc:cX ((d,tD rB (decide ((i:Int)<(xs.length:Int))))::G) c=some (tD rB (decide ((i:Int)<(xs.length:Int)))):=by exact rfl):
  LG E (Exit.inBlock id tV) (.seq (.region id' [⟨some d,.binOp .lss xt (.tmp a) (.tmp b) yt,ty,pos,after,none⟩].toArray false) (.seq (.cond (.tmp c) z (.exit id)) w)) aO G:=
 cy<|O<|im h<|bC<|aS<|xn (D hc) (WT K)<|cL<|am (am (bL k))
def gj{e:α}{i a:Nat}{z w:Code}(K:xs.drop i=e::tl)(h:(w7 E.N.n d (cX G a),cX G b)=(some (tD (rI .i64) (i:Int)),some (tD (rI .i64) (xs.length:Int))))(k:CG E (Exit.then (A8 E.r E.P (.seq (.region id' [⟨some d,.binOp .lss xt (.tmp a) (.tmp b) yt,ty,pos,after,none⟩].toArray false) (.seq (.cond (.tmp c) .skip z) w)) tV) tV) w aO ((d,tD rB (decide ((i:Int)<(xs.length:Int))))::G))(hc:cX ((d,tD rB (decide ((i:Int)<(xs.length:Int))))::G) c=some (tD rB (decide ((i:Int)<(xs.length:Int)))):=by exact rfl):
  LG E tV (.seq (.region id' [⟨some d,.binOp .lss xt (.tmp a) (.tmp b) yt,ty,pos,after,none⟩].toArray false) (.seq (.cond (.tmp c) .skip z) w)) aO G:=
 cy<|O<|im h<|bC<|aS<|xm (D hc) (So K)<|fy k
end
def FF{y:α}{i:Int}(hu:E.P.underlying st=some (.slice e))(ti:TI E.P e sz bytes agg z)(h:(w7 E.N.n d (cX G x),cX G ix)=(some (tD (gE r) xs),some (tD (rI j) i)))(hy:gw xs i=some y)(k:RG E ops tV l aO ((d,da r y)::G))(hsz:r.sz=sz:=by exact rfl):
  RG E ops tV (⟨some d,.indexAddr st (.tmp x) (.tmp ix),ty,pos,after,none⟩::l) aO G:=zo (Ac h).1 (Aq hu ti hsz (Ac h).2.1 (Ac h).2.2 hy) k
def eE{y:α}{i:Int}{p2:Nat}(hu:E.P.underlying st=some (.slice e))(ti:TI E.P e sz bytes agg z)(h:(w7 E.N.n d (cX G x),cX G ix)=(some (tD (gE r) xs),some (tD (rI j) i)))(hy:gw xs i=some y)(k:RG E ops tV l aO ((d2,tD r y)::(d,da r y)::G))(hsz:r.sz=sz:=by exact rfl)(hp2:w7 E.N.n d2 (cX ((d,da r y)::G) p2)=some (da r y):=by exact rfl)(hs:(r.sz,r.agg)=(sz,agg):=by exact rfl):
  RG E ops tV (⟨some d,.indexAddr st (.tmp x) (.tmp ix),ty,pos,after,none⟩::⟨some d2,.load e (.tmp p2),ty2,pos2,after2,none⟩::l) aO G:=FF hu ti h hy (eb ti hp2 k hs) hsz
def be{x:α}{y:β}{p v:Nat}{ty:TypeId}(ti:TI E.P U sz bytes agg z)(hset:fd r off q set)(h:(cX G p,cX G v)=(some (Q (M b off)),some (tD q y)))(k:RG E ops tV l (s r T b (set x y)::aO) G)(hsz:q.sz=sz:=by exact rfl)(hoff:Nat.ble (off+q.sz) r.sz=true:=by exact rfl):
  RG E ops tV (⟨none,.store U (.tmp p) (.tmp v),ty,pos,after,none⟩::l) (s r T b x::aO) G:=eD ti hsz hset hoff (D (y9 h).1) (D (y9 h).2) k
def Rv(n:Nat)(ops:Array Oper)(d j:Nat)(G:ou):Option Ty:=((ops[j]?).bind (·.dst)).bind fun gs=>w7 n gs (w7 n d (cX G gs))
def GY{d j:Nat}{ops:Array Oper}{t:Ty}(h:Rv n ops d j G=some t): ∃gs,(ops[j]?).bind (·.dst)=some gs/\w7 n gs (w7 n d (cX G gs))=some t:=by
 unfold Rv at h
 cases Y:(ops[j]?).bind (·.dst)with
 |none=>rw [Y]at h;cases h
 |some gs=>rw [Y]at h;exact⟨gs,rfl,h⟩
def ac{j:Nat}{b:Bool}(Y:Rv E.N.n ops d j G=some (tD rB b))(h:b=true->dw E aO G ⟨some d,op,ty,pos,after,some (j,true)⟩ t)(k:RG E ops tV l aO ((d,rM b t)::G)):
  RG E ops tV (⟨some d,op,ty,pos,after,some (j,true)⟩::l) aO G:=by obtain⟨gs,H,W⟩:=GY Y;exact zgt H W h k
def aB{j:Nat}{b:Bool}(Y:Rv E.N.n ops d j G=some (tD rB b))(h:(!b)=true->dw E aO G ⟨some d,op,ty,pos,after,some (j,false)⟩ t)(k:RG E ops tV l aO ((d,rM (!b) t)::G)):
  RG E ops tV (⟨some d,op,ty,pos,after,some (j,false)⟩::l) aO G:=by obtain⟨gs,H,W⟩:=GY Y;exact zgf H W h k
section
variable{c:Bool}
def bp{x:α}{p:Nat}(ti:TI E.P U sz bytes agg z)(hp:cX G p=some (rM c (da r x)))(hs:(r.sz,r.agg)=(sz,agg))(hc:c=true):
  dw E aO G ⟨dst,.load U (.tmp p),ty,pos,after,g⟩ (tD r x):=fC ti (y9 hs).1 (y9 hs).2 (bg hp hc)
def bu{get:α->β}{x:α}{i:Nat}{p:Nat}(hf:cq E.P T i=some (off,sz))(hq:lO r off q get)(hp:cX G p=some (da r x))(h0:(!(Nat.beq sz 0)&&Nat.ble (off+q.sz) r.sz)=true)(_:c=true):dw E aO G ⟨dst,.fieldAddr T (.tmp p) i,ty,pos,after,g⟩ (da q (get x)):=sP hf hq hp h0
def ca(K:cX G x=some t)(_:c=true):dw E aO G ⟨dst,.move (.tmp x),ty,pos,after,g⟩ t:=ki K
def ov(K:cX G x=some (rM c t))(hc:c=true):dw E aO G ⟨dst,.move (.tmp x),ty,pos,after,g⟩ t:=cB (bg K hc)
def hM(hu:E.P.underlying st=some (.slice e))(K:cX G x=some (rM c (tD (gE r) xs)))(hc:c=true):
  dw E aO G ⟨dst,.call ⟨.builtin .len,#[.tmp x],#[st]⟩,ty,pos,after,g⟩ (tD (rI .i64) (xs.length:Int)):=fK hu (bg K hc)
def nt{b:Bool}(K:cX G x=some (rM c (tD rB b)))(hc:c=true):dw E aO G ⟨dst,.unOp .not xt (.tmp x),ty,pos,after,g⟩ (tD rB (!b)):=fq (bg K hc)
end
def aK(h:w7 E.N.n d (cX G x)=some t)(k:CG E tV y aO ((d,t)::G)):RG E ops (Exit.then (y.wpIn (fw E.r) 0 E.P tV) tV) [⟨some d,.assign (.tmp x),ty,pos,after,none⟩] aO G:=dM h (bC k)
def bF(h:AT E tV .ret aO G):RG E ops (Exit.then (Code.ret.wpIn (fw E.r) 0 E.P tV) tV) [] aO G:=bC (qH h)
def ba(h:w7 E.N.n d (cX G x)=some t)(k:AT E tV .ret aO ((d,t)::G)):RG E ops (Exit.then (Code.ret.wpIn (fw E.r) 0 E.P tV) tV) [⟨some d,.assign (.tmp x),ty,pos,after,none⟩] aO G:=dM h (bF k)
def aN{id:Nat}{z:Code}(h:RG E l.toArray (Exit.then (y.wpIn (fw E.r) 0 E.P (Exit.then (z.wpIn (fw E.r) 0 E.P tV) tV)) (Exit.then (z.wpIn (fw E.r) 0 E.P tV) tV)) l aO G):CG E tV (.seq (.seq (.region id l.toArray false) y) z) aO G:=aS (O h)
def aw{id:Nat}(h:w7 E.N.n d (cX G x)=some t)(k:RG E ((⟨some d,.move (.tmp x),ty,pos,after,none⟩::l).toArray) (Exit.then (y.wpIn (fw E.r) 0 E.P tV) tV) l aO ((d,t)::G)):
  CG E tV (.seq (.region id (⟨some d,.move (.tmp x),ty,pos,after,none⟩::l).toArray false) y) aO G:=O (Z h k)
def ej{α β:Type _}{a:Option α}{f:α->Option β}{R:β}{xs:List Operand}{u:α->Ty}(h:a.bind f=some R)(hc:aj E.P fid=true)(hs: ∀{y},a=some y->dk E.P fid ts (u y))(K:nD E.N G xs ts)(k: ∀y,f y=some R->RG E ops tV l aO ((d,u y)::G))(hd:Nat.blt d E.N.n=true:=by exact rfl):RG E ops tV (⟨some d,.call ⟨.value (.func fid),xs.toArray,ats⟩,ty,pos,after,none⟩::l) aO G:=
 bR h fun y hy h=>OQ (cC hc (hs hy) K) hd (k y h)
def lp{α β:Type _}{γ:Type}{a:Option α}{f:α->Option β}{R:β}{r:Rp γ}{zs:α->List γ}{xs:List Operand}(h:a.bind f=some R)(hc:aj E.P fid=true)(hs: ∀{y},a=some y->jI E.P fid ts false r T (zs y))(K:nD E.N G xs ts)(k: ∀y,f y=some R-> ∀b cap,RG E ops tV l (d5 r T b cap (zs y)::aO) ((d,Q (aI b cap (zs y).length))::G))(hd:Nat.blt d E.N.n=true:=by exact rfl):
  RG E ops tV (⟨some d,.call ⟨.value (.func fid),xs.toArray,ats⟩,ty,pos,after,none⟩::l) aO G:=bR h fun y hy h=>IC hc (hs hy) K hd (k y h)
def eN{e:α}{i a id:Nat}(K:xs.drop i=e::tl)(hN:xs.length<=maxLen)(h:w7 E.N.n d (cX G a)=some (tD (rI .i64) (i:Int)))(k:AT E tV .normal aO ((d2,tD (rI .i64) ((i+1:Nat):Int))::(d,tD (rI .i64) ((i+1:Nat):Int))::G))(W:w7 E.N.n d2 (cX ((d,tD (rI .i64) ((i+1:Nat):Int))::G) b)=some (tD (rI .i64) ((i+1:Nat):Int)):=by exact rfl):
  AT E (Exit.inBlock id (Exit.then ((Code.region id' [⟨some d,.binOp .add xt (.tmp a) (.const (.int .i64 1)) yt,ty,pos,after,none⟩,⟨some d2,.move (.tmp b),ty2,pos2,after2,none⟩].toArray false).wpIn (fw E.r) 0 E.P tV) tV)) .normal aO G:=
 ah<|an<|ai<|zo (ep h).1 (zin (aay K hN) (ep h).2)<|Z W<|aJ k
def GX{e:α}{i a b2 d3 id:Nat}{ty3:TypeId}{pos3:String}{after3:Array Edge}(K:xs.drop i=e::tl)(hN:xs.length<=maxLen)(h:w7 E.N.n d (cX G a)=some (tD (rI .i64) (i:Int)))(k:AT E tV .normal aO ((d3,tD (rI .i64) ((i+1:Nat):Int))::(d2,tD (rI .i64) ((i+1:Nat):Int))::(d,tD (rI .i64) (i:Int))::G))(H:w7 E.N.n d2 (cX ((d,tD (rI .i64) (i:Int))::G) b)=some (tD (rI .i64) (i:Int)):=by exact rfl)(W:w7 E.N.n d3 (cX ((d2,tD (rI .i64) ((i+1:Nat):Int))::(d,tD (rI .i64) (i:Int))::G) b2)=some (tD (rI .i64) ((i+1:Nat):Int)):=by exact rfl):
  AT E (Exit.inBlock id (Exit.then ((Code.region id' [⟨some d,.move (.tmp a),ty,pos,after,none⟩,⟨some d2,.binOp .add xt (.tmp b) (.const (.int .i64 1)) yt,ty2,pos2,after2,none⟩,⟨some d3,.assign (.tmp b2),ty3,pos3,after3,none⟩].toArray false).wpIn (fw E.r) 0 E.P tV) tV)) .normal aO G:=
 ah<|an<|ai<|Z h<|zo (ep H).1 (zin (aay K hN) (ep H).2)<|dM W<|aJ k
section
variable{e:α}{i a p q1 q2 d3 d4 id:Nat}{ty3 ty4 u:TypeId}{pos3 pos4:String}{after3 after4:Array Edge}{z w:Code}
def aak(i:Nat)(r:Rp α)(xs:List α)(d d2 d3 d4:Nat)(G:ou):ou:=(d4,tD rB (decide ((i:Int)<(xs.length:Int))))::(d3,tD (rI .i64) (xs.length:Int))::(d2,tD (gE r) xs)::(d,tD (rI .i64) (i:Int))::G
def JK(hu:E.P.underlying st=some (.slice u))(K:xs.drop i=[])(h:(w7 E.N.n d (cX G a),w7 E.N.n d2 (cX ((d,tD (rI .i64) (i:Int))::G) b))=(some (tD (rI .i64) (i:Int)),some (tD (gE r) xs)))
    (k:AT E tV .normal aO ((d4,tD rB (decide ((i:Int)<(xs.length:Int))))::(d3,tD (rI .i64) (xs.length:Int))::(d2,tD (gE r) xs)::(d,tD (rI .i64) (i:Int))::G))
    (V:(w7 E.N.n d3 (cX ((d2,tD (gE r) xs)::(d,tD (rI .i64) (i:Int))::G) p),w7 E.N.n d4 (cX ((d3,tD (rI .i64) (xs.length:Int))::(d2,tD (gE r) xs)::(d,tD (rI .i64) (i:Int))::G) q1),
      cX ((d3,tD (rI .i64) (xs.length:Int))::(d2,tD (gE r) xs)::(d,tD (rI .i64) (i:Int))::G) q2,cX (aak i r xs d d2 d3 d4 G) c)=(some (tD (gE r) xs),some (tD (rI .i64) (i:Int)),some (tD (rI .i64) (xs.length:Int)),some (tD rB (decide ((i:Int)<(xs.length:Int))))):=by exact rfl):
    LG E (Exit.inBlock id tV) (.seq (.seq (.region id' [⟨some d,.move (.tmp a),ty,pos,after,none⟩,⟨some d2,.move (.tmp b),ty2,pos2,after2,none⟩,⟨some d3,.call ⟨.builtin .len,#[.tmp p],#[st]⟩,ty3,pos3,after3,none⟩,⟨some d4,.binOp .lss xt (.tmp q1) (.tmp q2) yt,ty4,pos4,after4,none⟩].toArray false) (.cond (.tmp c) z (.exit id))) w) aO G:=
  have h' :=y9 h;have e1:=y9 V;have e2:=y9 e1.2;have e3:=y9 e2.2
  cy<|aS<|O<|Z h'.1<|Z h'.2<|bX hu e1.1<|zo (ep e2.1).1 (zlt (ep e2.1).2 e3.1)<|bC<|xn (D e3.2) (WT K)<|cL<|am (am (bL k))
def JJ(hu:E.P.underlying st=some (.slice u))(K:xs.drop i=e::tl)(h:(w7 E.N.n d (cX G a),w7 E.N.n d2 (cX ((d,tD (rI .i64) (i:Int))::G) b))=(some (tD (rI .i64) (i:Int)),some (tD (gE r) xs)))
    (k:CG E (Exit.then (A8 E.r E.P (.seq (.seq (.region id' [⟨some d,.move (.tmp a),ty,pos,after,none⟩,⟨some d2,.move (.tmp b),ty2,pos2,after2,none⟩,⟨some d3,.call ⟨.builtin .len,#[.tmp p],#[st]⟩,ty3,pos3,after3,none⟩,⟨some d4,.binOp .lss xt (.tmp q1) (.tmp q2) yt,ty4,pos4,after4,none⟩].toArray false) (.cond (.tmp c) .skip z)) w) tV) tV) w aO
      ((d4,tD rB (decide ((i:Int)<(xs.length:Int))))::(d3,tD (rI .i64) (xs.length:Int))::(d2,tD (gE r) xs)::(d,tD (rI .i64) (i:Int))::G))
    (V:(w7 E.N.n d3 (cX ((d2,tD (gE r) xs)::(d,tD (rI .i64) (i:Int))::G) p),w7 E.N.n d4 (cX ((d3,tD (rI .i64) (xs.length:Int))::(d2,tD (gE r) xs)::(d,tD (rI .i64) (i:Int))::G) q1),
      cX ((d3,tD (rI .i64) (xs.length:Int))::(d2,tD (gE r) xs)::(d,tD (rI .i64) (i:Int))::G) q2,cX (aak i r xs d d2 d3 d4 G) c)=(some (tD (gE r) xs),some (tD (rI .i64) (i:Int)),some (tD (rI .i64) (xs.length:Int)),some (tD rB (decide ((i:Int)<(xs.length:Int))))):=by exact rfl):
    LG E tV (.seq (.seq (.region id' [⟨some d,.move (.tmp a),ty,pos,after,none⟩,⟨some d2,.move (.tmp b),ty2,pos2,after2,none⟩,⟨some d3,.call ⟨.builtin .len,#[.tmp p],#[st]⟩,ty3,pos3,after3,none⟩,⟨some d4,.binOp .lss xt (.tmp q1) (.tmp q2) yt,ty4,pos4,after4,none⟩].toArray false) (.cond (.tmp c) .skip z)) w) aO G:=
  have h' :=y9 h;have e1:=y9 V;have e2:=y9 e1.2;have e3:=y9 e2.2
  cy<|aS<|O<|Z h'.1<|Z h'.2<|bX hu e1.1<|zo (ep e2.1).1 (zlt (ep e2.1).2 e3.1)<|bC<|xm (D e3.2) (So K)<|fy k
end
end
section
variable{l:List Oper}{ty:TypeId}
def fb(r:Rp α)(k:RG E ops tV l aO ((d,tD (gE r) [])::G))(hd:Nat.blt d E.N.n=true:=by exact rfl):RG E ops tV (⟨some d,.assign (.const (.slice none 0 0)),ty,pos,after,none⟩::l) aO G:=zo hd (cg Wc) k
def bV{β:Type _}{aa hg:Option β}{r:β}{x:Code}{b:Bool}(h:(if b=true then aa else hg)=some r)(V:cX G c=some (tD rB b))(K:aa=some r->CG E tV x aO G)(hy:hg=some r->CG E tV y aO G):
  RG E ops (Exit.then ((Code.cond (.tmp c) x y).wpIn (fw E.r) 0 E.P tV) tV) [] aO G:=bC (fz h V K hy)
def cF{id:Nat}{hx:Act->World->Prop}(h:AT E tV .ret aO G):AT E (Exit.inBlock id (Exit.then hx tV)) .ret aO G:=KJ (ae h)
def ea{n:Int}(k:AT E tV .ret aO ((d,tD (rI j) n)::G))(hd:Nat.blt d E.N.n=true:=by exact rfl):RG E ops (Exit.then (Code.ret.wpIn (fw E.r) 0 E.P tV) tV) [⟨some d,.assign (.const (.int j n)),ty,pos,after,none⟩] aO G:=zo hd zai (bF k)
def dX{f:FuncId}{c:Code}{N:Nat}(hf:P.funcs[f]? =some fn)(V:(fn.body,fn.ntmps,Nat.ble ts.length fn.ntmps)=(some c,N,true))(h: ∀{w0 S0},CG ⟨P,⟨N,[]⟩,xM,w0,S0,none⟩ (bodyPost P fn (Mb ⟨P,⟨N,[]⟩,xM,w0,S0,none⟩ t)) c [] (Cz 0 ts)):dk P f ts t:=by
 obtain⟨H,W⟩:=y9 V;obtain⟨W,h3⟩:=y9 W;subst W;exact dk.of hf H rfl h3 fun _ _=>h
section
variable{i:Nat}
def ac5{G:ou}{k:Nat}:cX ((k,t)::G) k=some t:=by simp [cX]
def fc(h:ts[i]? =some u)(hu:cX G x=some u)(V:([(⟨x,u,none⟩:Nd)].all (sH l ⟨dst,.move (.tmp x),ty,pos,after,g⟩ i)&&gr i ⟨dst,.move (.tmp x),ty,pos,after,g⟩&&g.isNone)=true:=by exact rfl):
  ∃(needs:List Nd) (t:Ty),ts[i]? =some t/\vJ G ts needs/\(needs.all (sH l ⟨dst,.move (.tmp x),ty,pos,after,g⟩ i))=true/\gr i ⟨dst,.move (.tmp x),ty,pos,after,g⟩=true/\cr E aO l.toArray (lg needs) ⟨dst,.move (.tmp x),ty,pos,after,g⟩ t:=
 Dm x h hu (ki ac5) V
def kF{v:α}(j:Nat)(ti:TI E.P U sz bytes agg z)(h:ts[i]? =some (tD r v))(hu:ts[j]? =some (da r v))(hs:(r.sz,r.agg)=(sz,agg):=by exact rfl)(V:([(⟨x,da r v,some j⟩:Nd)].all (sH l ⟨dst,.load U (.tmp x),ty,pos,after,g⟩ i)&&gr i ⟨dst,.load U (.tmp x),ty,pos,after,g⟩&&g.isNone)=true:=by exact rfl):
  ∃(needs:List Nd) (t:Ty),ts[i]? =some t/\vJ G ts needs/\(needs.all (sH l ⟨dst,.load U (.tmp x),ty,pos,after,g⟩ i))=true/\gr i ⟨dst,.load U (.tmp x),ty,pos,after,g⟩=true/\cr E aO l.toArray (lg needs) ⟨dst,.load U (.tmp x),ty,pos,after,g⟩ t:=
 eS x j h hu (CM ti ac5 hs) V
end
end
