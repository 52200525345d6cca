/- cH of this claim: W33, W34, W35, W36, W37, W38, W39, W40, W48, W50, W51, W41, W42, W43, W21, W27, W45, W46, W47, W52, W53, W56, W57. -/
import Derived.Test.YthbdkceckjihgaaGreatDoorBaV2
import Derived.Lib.Bytealg
import Derived.Maps.Range
import Derived.Laws.IdiomRangeMap
import Derived.Test.YthbdkceckjihgaaGreatDoorBaV1
import Derived.Laws.BytesString
import Derived.Below
import Derived.ProofKit
import Derived.OpenShut
import Derived.LaidMore
import Derived.Laws.Externs
set_option linter.all false
namespace Go.Proofs.YthbdkceckjihgaaGreatDoor
open Go

def qH(N:Nat):List Nat->List Oper->Bool
 |_,[]=>true
 |seen,o::rest=>match o.dst with
  |some ac=>Nat.blt ac N&& !(seen.any (Nat.beq ac))&&qH N (ac::seen) rest
  |none=>qH N seen rest
variable{N:Fr}{β:Type}{ac:Nat}{j:Int}{o:Oper}{p:Operand}{q:Rp β}
def vZ{N:Nat}(l:List Oper): ∀(seen:List Nat),qH N seen l=true->
  (∀o:Oper,o∈l-> ∀ac,o.dst=some ac->ac<N/\ac∉seen)/\ ∀(i j:Nat) (o p:Oper) (ac:Nat),l[i]? =some o->l[j]? =some p->o.dst=some ac->p.dst=some ac->i=j:=by
 induction l with
 |nil=>exact fun _ _=>⟨fun _ h=>(by cases h),fun _ _ _ _ _ h=>(by simp at h)⟩
 |cons o l ih=>
  intro seen h
  unfold qH at h
  cases hd:o.dst with
  |none=>
   rw [hd]at h
   obtain⟨H,J⟩:=ih seen h
   refine⟨fun q hq ac hqd=>?_,fun i j p q ac hi hj hp hq=>?_⟩
   ·rcases mJ.1 hq with rfl|hq
    ·rw [hd]at hqd;cases hqd
    ·exact H q hq ac hqd
   ·cases i with
    |zero=>simp at hi;subst hi;rw [hd]at hp;cases hp
    |succ i=>
     cases j with
     |zero=>simp at hj;subst hj;rw [hd]at hq;cases hq
     |succ j=>rw [J i j p q ac (by simpa using hi) (by simpa using hj) hp hq]
  |some d0=>
   rw [hd]at h
   simp only [lG,qx,Ad]at h
   obtain⟨⟨g1,g2⟩,g3⟩:=h
   obtain⟨H,J⟩:=ih (d0::seen) g3
   have hns:d0∉seen:=fun hm=>by
    have:seen.any (Nat.beq d0)=true:=w9.2 ⟨d0,hm,Nat.beq_refl d0⟩
    rw [this]at g2;cases g2
   refine⟨fun q hq ac hqd=>?_,fun i j p q ac hi hj hp hq=>?_⟩
   ·rcases mJ.1 hq with rfl|hq
    ·rw [hd]at hqd;cases hqd;exact⟨g1,hns⟩
    ·obtain⟨k1,k2⟩:=H q hq ac hqd
     exact⟨k1,fun hm=>k2 (oj _ hm)⟩
   ·cases i with
    |zero=>
     cases j with
     |zero=>rfl
     |succ j=>
      simp at hi;subst hi
      rw [hd]at hp;cases hp
      exact absurd (oh ..) (H q (qu (by simpa using hj)) d0 hq).2
    |succ i=>
     cases j with
     |zero=>
      simp at hj;subst hj
      rw [hd]at hq;cases hq
      exact absurd (oh ..) (H p (qu (by simpa using hi)) d0 hp).2
     |succ j=>rw [J i j p q ac (by simpa using hi) (by simpa using hj) hp hq]
def BY:List Oper->List Ty->io->io
 |o::l,t::ts,G=>match o.dst with
  |some ac=>(ac,t)::BY l ts G
  |none=>BY l ts G
 |_,_,G=>G
variable{G:io}{e:TypeId}{k:IntKind}{t:TypeId}{ts:List Ty}{u:Ty}
def zw(l:List Oper): ∀(ts:List Ty) (k:Nat) (t:Ty),ts.length=l.length->look (BY l ts G) k=some t->
  (∃(j:Nat) (o:Oper),l[j]? =some o/\o.dst=some k/\ts[j]? =some t)\/(look G k=some t/\ ∀o:Oper,o∈l->o.dst≠some k):=by
 induction l with
 |nil=>
  intro ts k t hl h
  have:ts=[]:=uX (by simpa using hl)
  subst this
  exact .inr ⟨h,fun _ h=>(by cases h)⟩
 |cons o l ih=>
  intro ts k t hl h
  cases ts with
  |nil=>simp at hl
  |cons u ts=>
   unfold BY at h
   have hl' :ts.length=l.length:=by simpa using hl
   have lift:((∃(j:Nat) (p:Oper),l[j]? =some p/\p.dst=some k/\ts[j]? =some t)\/(look G k=some t/\ ∀p:Oper,p∈l->p.dst≠some k))->o.dst≠some k->
     (∃(j:Nat) (p:Oper),(o::l)[j]? =some p/\p.dst=some k/\(u::ts)[j]? =some t)\/(look G k=some t/\ ∀p:Oper,p∈o::l->p.dst≠some k):=by
    rintro(⟨j,p,H,J,h3⟩|⟨H,J⟩) hne
    ·exact .inl ⟨j+1,p,by simpa using H,J,by simpa using h3⟩
    ·exact .inr ⟨H,fun p hp=>(mJ.1 hp).elim (fun e=>by subst e;exact hne) (J p)⟩
   cases hd:o.dst with
   |none=>
    rw [hd]at h
    exact lift (ih ts k t hl' h) (by rw [hd];exact fun e=>by cases e)
   |some ac=>
    rw [hd]at h
    simp only at h
    unfold look at h
    by_cases D:Nat.beq ac k=true
    ·rw [D]at h
     have:=kR D
     subst this
     have e:u=t:=by simpa using h
     subst e
     exact .inl ⟨0,o,rfl,hd,rfl⟩
    ·rw [uT]at D
     rw [D]at h
     refine lift (ih ts k t hl' h) ?_
     rw [hd]
     intro e
     have:ac=k:=kP e
     subst this
     simp at D
abbrev TS:=List Nat×(List OI->Ty)
def TS.at(p:TS)(σ:Nat->OI):Ty:=p.2 (p.1.map σ)
def tc(t:Ty):TS:=([],fun _=>t)
def GO(Ss:List ((Nat->OI)->List OE))(c:Nat)(σ:Nat->OI):List OE:=match Ss[c]? with|some f=>f σ|none=>[]
structure NS where
 slot:Nat
 ty:(Nat->OI)->Ty
 src:Option Nat
def NS.at(n:NS)(σ:Nat->OI):Nd:=⟨n.slot,n.ty σ,n.src⟩
def Kp(G:io)(ts:List TS)(n:NS):Prop:=
 match n.src with
 |some j=> ∀σ,(ts[j]?).map (fun p=>p.at σ)=some (n.ty σ)
 |none=> ∀σ,look G n.slot=some (n.ty σ)
def qp(G:io)(ts:List TS):List NS->Prop
 |[]=>True
 |n::l=>Kp G ts n/\qp G ts l
variable{n:Nat}
def qp.mem{ts:List TS}: ∀{l:List NS},qp G ts l-> ∀n∈l,Kp G ts n
 |_::_,⟨h,_⟩,_,.head _=>h
 |_::_,⟨_,h⟩,_,.tail _ hm=>qp.mem h _ hm
def qj(l:List NS)(σ:Nat->OI):io:=fB (l.map (·.at σ))
def Iz(ts:List TS)(σ:Nat->OI):List Ty:=ts.map fun p=>p.at σ
def Gn(L:List Oper)(es:List Bool)(i:Nat)(p:TS):Bool:=p.1.all fun k=>(es[k]?).getD false&&(Nat.beq k i||jh L L.length i k)
def Le(L:List Oper)(es:List Bool)(i lo hi:Nat):Bool:=
 Nat.ble lo (ep es es.length)&&(List.range es.length).all fun k=> !((es[k]?).getD false)||((Nat.ble lo (ep es k)||jh L L.length i k)&&(Nat.blt (ep es k) hi||jh L L.length k i))
def DS(E:En)(G:io)(L:List Oper)(ts:List TS)(Ss:List ((Nat->OI)->List OE))(es0:List Bool):Nat->Nat->List Oper->List Bool->Prop
 |_,_,[],_=>True
 |i,c,o::rest,false::es=>(∃(needs:List NS) (t:TS) (lo hi:Nat),ts[i]? =some t/\qp G ts needs/\(needs.all fun n=>j8 L o i (n.at fun _=>kT))=true/\di i o=true/\Gn L es0 i t=true/\Le L es0 i lo hi=true/\o.dst.isSome=true/\
   ∀c σ,lo<=c->c<=hi->ba E (GO Ss c σ) L.toArray (qj needs σ) o (t.at σ))/\DS E G L ts Ss es0 (i+1) c rest es
 |i,c,o::rest,true::es=>(∃(needs:List NS) (t:TS),ts[i]? =some t/\qp G ts needs/\(needs.all fun n=>j8 L o i (n.at fun _=>kT))=true/\di i o=true/\Gn L es0 i t=true/\
   ∀σ,gw E L.toArray (GO Ss c σ) (qj needs σ) o (fun x=>GO Ss (c+1) (GM σ i x)) (fun x=>t.at (GM σ i x)))/\DS E G L ts Ss es0 (i+1) (c+1) rest es
 |_,_,_::_,[]=>False
variable{E:En}{L:List Oper}{Ss:List ((Nat->OI)->List OE)}{c:Code}{es:List Bool}{lo:Int}{α:Type}{r:Rp α}{x:Operand}{σ:Nat->OI}
def DS.get{ts:List TS}{es0:List Bool}: ∀(r:List Oper) (es:List Bool) (k c:Nat),DS E G L ts Ss es0 k c r es-> ∀(j:Nat) (o:Oper),r[j]? =some o->
    ∃e,es[j]? =some e/\ ∃(needs:List NS) (t:TS),ts[k+j]? =some t/\qp G ts needs/\(needs.all fun n=>j8 L o (k+j) (n.at fun _=>kT))=true/\di (k+j) o=true/\Gn L es0 (k+j) t=true/\
      (match e with
       |false=>o.dst.isSome=true/\ ∃lo hi,Le L es0 (k+j) lo hi=true/\ ∀c σ,lo<=c->c<=hi->ba E (GO Ss c σ) L.toArray (qj needs σ) o (t.at σ)
       |true=> ∀σ,gw E L.toArray (GO Ss (c+ep es j) σ) (qj needs σ) o (fun x=>GO Ss (c+ep es j+1) (GM σ (k+j) x)) (fun x=>t.at (GM σ (k+j) x))):=by
  intro r
  induction r with
  |nil=>intro es k c _ j o h;simp at h
  |cons p r ih=>
    intro es k c h j o ho
    cases es with
    |nil=>exact h.elim
    |cons e es=>
      cases e with
      |false=>
        obtain⟨⟨needs,t,lo,hi,g1,g2,g3,g4,g5,g6,g7,g8⟩,J⟩:=h
        cases j with
        |zero=>
          simp at ho;subst ho
          exact⟨false,rfl,needs,t,g1,g2,g3,g4,g5,g7,lo,hi,g6,g8⟩
        |succ j=>
          obtain⟨e',g1,g2⟩:=ih es (k+1) _ J j o (by simpa using ho)
          refine⟨e',by simpa using g1,?_⟩
          rw [show k+1+j=k+(j+1)from by omega]at g2
          have e1:c+ep (false::es) (j+1)=c+ep es j:=by simp [ep]
          rw [e1];exact g2
      |true=>
        obtain⟨H,J⟩:=h
        cases j with
        |zero=>
          simp at ho;subst ho
          exact⟨true,rfl,H⟩
        |succ j=>
          obtain⟨e',g1,g2⟩:=ih es (k+1) _ J j o (by simpa using ho)
          refine⟨e',by simpa using g1,?_⟩
          rw [show k+1+j=k+(j+1)from by omega]at g2
          have e1:c+ep (true::es) (j+1)=c+1+ep es j:=by simp [ep];omega
          rw [e1];exact g2
structure KW(E:En)(G:io)(l:List Oper)(ts:List TS)(Ss:List ((Nat->OI)->List OE))(es:List Bool)(done:Array Bool)(a:Act)(w:World)(S:SH)(σ:Nat->OI)(c:Nat):Prop where
 ext:gj E.B E.w0 E.S0 w S
 sat:hY w S
 own:cr E.base E.B w S (GO Ss c σ)
 size:a.tmps.size=E.N.n
 defers:a.defers=E.N.ds
 dsz:done.size=l.length
 down: ∀j o,l[j]? =some o->done.getD j false=true-> ∀e∈o.after,Region.binds .any e=true->done.getD e.on false=true
 old: ∀k t,look G k=some t->(∀j o,l[j]? =some o->done.getD j false=true->o.dst≠some k)->t.p S (a.tmps.getD k undef)
 new: ∀j o ac p,l[j]? =some o->done.getD j false=true->o.dst=some ac->ts[j]? =some p->(p.at σ).p S (a.tmps.getD ac undef)
 deps: ∀j p,done.getD j false=true->ts[j]? =some p-> ∀k∈p.1,done.getD k false=true
 chain: ∀k,es[k]? =some true->(done.getD k false=true↔ep es k<c)
variable{S S' :SH}{a:Act}{b:Nat}{done:Array Bool}{f:FuncId}{κ:Type}{m:List (κ×β)}{v:Value}{w w' :World}
section
variable{ts:List TS}
def KW.need{c:Nat}(h:KW E G L ts Ss es done a w S σ c){i:Nat}(hi:L[i]? =some o)(hun:done.getD i true=false)(hwait: ∀e∈o.after,Region.binds .any e=true->done.getD e.on false=true){needs:List NS}(H:qp G ts needs)(J:(needs.all fun n=>j8 L o i (n.at fun _=>kT))=true):cH E.N S a (qj needs σ):=by
 have hlt:i<done.size:=by rw [h.dsz];exact(mO.1 hi).1
 have hun' :done.getD i false=false:=by
  simp [hlt]at hun ⊢;exact hun
 refine⟨h.size,h.defers,?_⟩
 have key: ∀n∈needs,(n.ty σ).p S (a.tmps.getD n.slot undef):=by
  intro n hn
  have hs:=kU.1 J n hn
  have ho:=H.mem n hn
  unfold j8 NS.at at hs
  unfold Kp at ho
  cases hsrc:n.src with
  |some j=>
   rw [hsrc]at hs ho
   simp only [lG]at hs
   obtain⟨hs1,hs2⟩:=hs
   cases hj:L[j]? with
   |none=>rw [hj]at hs1;cases hs1
   |some p=>
    rw [hj]at hs1
    cases hd:p.dst with
    |none=>simp only [hd]at hs1;cases hs1
    |some ac=>
     simp only [hd]at hs1
     have hd' :=kR hs1
     subst hd'
     have hdone:done.getD j false=true:=by
      unfold vV at hs2
      obtain⟨e,he0,D⟩:=w9.1 hs2
      have he:e∈o.after:=by simpa using he0
      simp only [lG]at D
      have:=hwait e he D.2
      rwa [kR D.1]at this
     have hm:=ho σ
     cases hf:ts[j]? with
     |none=>rw [hf]at hm;simp at hm
     |some f=>
      rw [hf]at hm
      have e:f.at σ=n.ty σ:=by simpa using hm
      rw [<-e]
      exact h.new j p n.slot f hj hdone hd hf
  |none=>
   rw [hsrc]at hs ho
   refine h.old _ _ (ho σ) fun j p hj hdone hd=>?_
   have:=kU.1 hs p (qu hj)
   simp only [hd,Nat.beq_refl,sI,qt]at this
   unfold vV at this
   obtain⟨e,he0,D⟩:=w9.1 this
   have he:e∈p.after:=by simpa using he0
   simp only [lG]at D
   have h3:=h.down j p hj hdone e he D.2
   rw [kR D.1]at h3
   rw [h3]at hun'
   cases hun'
 clear H J
 intro k t hk
 unfold qj at hk
 induction needs with
 |nil=>simp [fB,look]at hk
 |cons n needs ih=>
  simp only [tz]at hk
  unfold fB look at hk
  by_cases D:Nat.beq n.slot k=true
  ·have hb' :Nat.beq (n.at σ).slot k=true:=D
   rw [hb']at hk
   have:=kR D
   subst this
   have h9:some (n.at σ).ty=some t:=by simpa using hk
   have e:n.ty σ=t:=kP h9
   rw [<-e]
   exact key n (oh ..)
  ·rw [uT]at D
   have hb' :Nat.beq (n.at σ).slot k=false:=D
   rw [hb']at hk
   exact ih (fun m hm=>key m (oj _ hm)) hk
def KW.step{σ' :Nat->OI}{c c' :Nat}(h:KW E G L ts Ss es done a w S σ c){i:Nat}{p0:TS}{C:Nat->Prop}(hi:L[i]? =some o)(hdN: ∀ac,o.dst=some ac->ac<E.N.n)(hs2: ∀ac,o.dst=some ac-> ∀j p,L[j]? =some p->done.getD j false=true->p.dst=some ac->i=j)(hwait: ∀e∈o.after,Region.binds .any e=true->done.getD e.on false=true)(Y:ts[i]? =some p0)(hun:done.getD i true=false)(hdep: ∀k∈p0.1,k=i\/done.getD k false=true)(hext:gj C w S w' S')(hC: ∀b,C b->E.base<=b\/E.B b)(hsat:hY w' S')(hown:cr E.base E.B w' S' (GO Ss c' σ'))(hσ: ∀k,k≠i->σ' k=σ k)(hv:(p0.at σ').p S' v)(hch: ∀k,es[k]? =some true->((done.setIfInBounds i true).getD k false=true↔ep es k<c')):
  KW E G L ts Ss es (done.setIfInBounds i true) (a.put o.dst v) w' S' σ' c' :=by
 have hlt:i<done.size:=by rw [h.dsz];exact(mO.1 hi).1
 have hset: ∀j,(done.setIfInBounds i true).getD j false=true->j=i\/done.getD j false=true:=fun j hj=>by
  by_cases hij:i=j
  ·exact .inl hij.symm
  ·rw [wt false hij]at hj;exact .inr hj
 have hseti:(done.setIfInBounds i true).getD i false=true:=by simp [hlt]
 have hun' :done.getD i false=false:=by simp [hlt]at hun ⊢;exact hun
 have hput: ∀k,(∀ac,o.dst=some ac->ac≠k)->(a.put o.dst v).tmps.getD k undef=a.tmps.getD k undef:=fun k hk=>by
  cases hd:o.dst with
  |none=>rfl
  |some ac=>
   have hda:ac<a.tmps.size:=by rw [h.size];exact hdN ac hd
   rw [oA hda,cS (hk ac hd)]
 refine⟨h.ext.step hext hC,hsat,hown,?_,?_,by simp [h.dsz],fun j p hj hdone e he D=>?_,fun k u hk hno=>?_,fun j p d' u hj hdone hd' hu=>?_,fun j u hj hu k hk=>?_,hch⟩
 ·cases o.dst with
  |none=>exact h.size
  |some ac=>simp [Act.put,h.size]
 ·cases o.dst with
  |none=>exact h.defers
  |some ac=>exact h.defers
 ·rcases hset j hdone with rfl|hj'
  ·rw [hi]at hj
   have:o=p:=by simpa using hj
   subst this
   exact rZ (hwait e he D)
  ·exact rZ (h.down j p hj hj' e he D)
 ·rw [hput k fun ac hd e=>hno i o hi hseti (by rw [hd,e])]
  exact u.mono hext.keep (h.old k u hk fun j p hj hdone=>hno j p hj (rZ hdone))
 ·by_cases hij:j=i
  ·subst hij
   rw [hi]at hj
   have:o=p:=by simpa using hj
   subst this
   have hda:d' <a.tmps.size:=by rw [h.size];exact hdN d' hd'
   rw [hd',oA hda,fE rfl]
   rw [Y]at hu
   have:p0=u:=by simpa using hu
   subst this
   exact hv
  ·have hj' :=(hset j hdone).resolve_left hij
   rw [hput d' fun ac hd e=>by subst e;exact hij (hs2 ac hd j p hj hj' hd').symm]
   have e1:u.at σ' =u.at σ:=congrArg u.2 (List.map_congr_left fun k hk=>hσ k fun e=>by
     subst e
     rw [h.deps j u hj' hu k hk]at hun';cases hun')
   rw [e1]
   exact Ty.mono _ hext.keep (h.new j p d' u hj hj' hd' hu)
 ·rcases hset j hj with rfl|hj'
  ·rw [Y]at hu
   have:p0=u:=by simpa using hu
   subst this
   rcases hdep k hk with rfl|h'
   ·exact hseti
   ·exact rZ h'
  ·exact rZ (h.deps j u hj' hu k hk)
end
variable{ay:Exit->Act->World->Prop}
def BA{l t:List Oper}{ts:List TS}(hsl:qH E.N.n [] l=true)(hlen:ts.length=l.length)(hesl:es.length=l.length)(hd:DS E G (l++t) ts Ss es 0 0 l es)(hch:D3 (l++t) es=true)(Y:su (l++t) l.length t.length=true)(hQ: ∀a w S σ,St E (GO Ss (ep es es.length) σ) (BY l (Iz ts σ) G) a w S->wpListIn (fw E.r) 0 E.P (l++t).toArray ay t a w):
  ∀(fuel:Nat) (done:Array Bool) (a:Act) (w:World) (S:SH) (σ:Nat->OI) (c:Nat),hM done=fuel->(∀j,l.length<=j->done.getD j false=false)->c<=ep es es.length->KW E G (l++t) ts Ss es done a w S σ c->wpAnyIn (fw E.r) 0 E.P .any (l++t).toArray ay fuel done a w:=by
 have hL1: ∀i o,i<l.length->(l++t)[i]? =some o->l[i]? =some o:=fun i o hi h=>by rwa [yI hi]at h
 have hL2: ∀i o,l[i]? =some o->(l++t)[i]? =some o:=fun i o h=>by rw [yI (mO.1 h).1];exact h
 have htail: ∀m o,l.length<=m->(l++t)[m]? =some o->p4 (l++t) m=true/\di m o=true:=fun m o hm ho=>by
  have hml:m<(l++t).length:=(mO.1 ho).1
  rw [j6]at hml
  unfold su at Y
  have:=kU.1 Y (m-l.length) (by simp;omega)
  rw [show l.length+(m-l.length)=m from by omega,ho]at this
  simp only [lG]at this
  exact⟨this.1,this.2.1⟩
 have hget:=fun i o (hi:l[i]? =some o)=>DS.get l es 0 0 hd i o hi
 have hedge: ∀i o,(l++t)[i]? =some o->di i o=true:=fun i o hi=>by
  rcases jq i l.length with h|h
  ·obtain⟨_,_,_,_,_,_,_,h,_⟩:=hget i o (hL1 i o h hi)
   simpa using h
  ·exact(htail i o h hi).2
 obtain⟨hs1,hs2⟩:=vZ l [] hsl
 have fin: ∀fuel done a w S σ c,hM done=fuel->(∀j,l.length<=j->done.getD j false=false)->c<=ep es es.length->KW E G (l++t) ts Ss es done a w S σ c->(∀i,i<l.length->done.getD i false=true)->wpAnyIn (fw E.r) 0 E.P .any (l++t).toArray ay fuel done a w:=by
  intro fuel done a w S σ c hu hfree hcle h hall
  have hcc:c=ep es es.length:=by
   rcases jq c (ep es es.length)with hlt|hge
   ·obtain⟨i,H,J,h3⟩:=qd hlt
    have:=(h.chain i J).1 (hall i (by omega))
    omega
   ·omega
  subst hcc
  refine sN (n:=l.length) (fun m o hm ho=>(htail m o hm ho).1) hedge t l.length done fuel a w (gP _) (by simp) h.dsz (fun j hj=>⟨fun hjd=>?_,fun hlt=>hall j hlt⟩) hu
   (hQ a w S σ ⟨h.ext,h.sat,h.own,h.size,h.defers,fun j u hj=>?_⟩)
  ·rcases jq j l.length with h' |h'
   ·exact h'
   ·rw [hfree j h']at hjd;cases hjd
  ·rcases zw l (Iz ts σ) j u (by unfold Iz;rw [List.length_map];exact hlen) hj with⟨i,o,H,J,h3⟩|⟨H,J⟩
   ·unfold Iz at h3
    rw [y4]at h3
    cases hf:ts[i]? with
    |none=>rw [hf]at h3;simp at h3
    |some f=>
     rw [hf]at h3
     have e:f.at σ=u:=by simpa using h3
     rw [<-e]
     exact h.new i o j f (hL2 i o H) (hall i (mO.1 H).1) J hf
   ·refine h.old j u H fun i o ho hdn=>?_
    rcases jq i l.length with h' |h'
    ·exact J o (qu (hL1 i o h' ho))
    ·rw [hfree i h']at hdn;cases hdn
 have lower: ∀done a w S σ c i,(∀j,l.length<=j->done.getD j false=false)->KW E G (l++t) ts Ss es done a w S σ c->i∈Region.ready .any (l++t).toArray done->l.length<=i-> ∀j,j<l.length->done.getD j false=true:=by
  intro done a w S σ c i hfree h hi hge j hj
  obtain⟨hun,p,hp,hwait⟩:=sH.1 hi
  have hp' :(l++t)[i]? =some p:=by simpa using hp
  have hcov:=(htail i p hge hp').1
  unfold p4 at hcov
  have hre:=kU.1 hcov j (by simp;omega)
  exact ej h.down _ i j (fun q hq e he D=>by
   have:q=p:=by rw [hp']at hq;simpa using hq.symm
   subst this
   exact hwait e he D) hre
 have hchain: ∀i j,j<i->es[i]? =some true->es[j]? =some true->jh (l++t) (l++t).length i j=true:=fun i j hij H J=>by
  unfold D3 at hch
  have hil:i<es.length:=(mO.1 H).1
  have:=kU.1 (kU.1 hch i (by simpa using hil)) j (by simpa using hij)
  rw [H,J]at this
  simpa using this
 intro fuel
 induction fuel with
 |zero=>
  intro done a w S σ c hu hfree hcle h
  exact fin 0 done a w S σ c hu hfree hcle h fun i hi=>ow hu (by rw [h.dsz,j6];omega)
 |succ fuel ih=>
  intro done a w S σ c hu hfree hcle h
  by_cases hall: ∀i,i<l.length->done.getD i false=true
  ·exact fin _ done a w S σ c hu hfree hcle h hall
  have hready0: ∀m i,i<m->i<l.length->Region.ready .any (l++t).toArray done=[]->done.getD i false=true:=by
   intro m
   induction m with
   |zero=>intro i h;omega
   |succ m ihm=>
    intro i him hil hr
    have his:i<done.size:=by rw [h.dsz,j6];omega
    by_cases hdn:done.getD i true=true
    ·rw [<-jW his];exact hdn
    ·exfalso
     obtain⟨o,ho⟩: ∃o,(l++t)[i]? =some o:=⟨l[i],hL2 i _ (nw hil)⟩
     have hmem:i∈Region.ready .any (l++t).toArray done:=by
      rw [sH]
      refine⟨by simpa using hdn,o,by simpa using ho,fun e he D=>?_⟩
      have:=hedge i o ho
      unfold di at this
      have:=kU.1 this e (by simpa using he)
      simp only [D,sI,qt,qx]at this
      exact ihm e.on (by omega) (by omega) hr
     rw [hr]at hmem;cases hmem
  refine⟨fun hr=>absurd (fun i hi=>hready0 (i+1) i (by omega) hi hr) hall,fun i hi=>?_⟩
  have hil:i<l.length:=by
   rcases jq i l.length with h' |h'
   ·exact h'
   ·exact absurd (lower done a w S σ c i hfree h hi h') hall
  obtain⟨hun,o,ho,hwait⟩:=sH.1 hi
  have ho' :(l++t)[i]? =some o:=by simpa using ho
  have hol:=hL1 i o hil ho'
  obtain⟨e,he,needs,u,H,J,h3,_,h4,h5⟩:=hget i o hol
  rw [qr]at H h3 h4
  have hF:=h.need ho' hun hwait J h3
  have his:i<done.size:=by rw [h.dsz,j6];omega
  have hun' :done.getD i false=false:=by rw [<-jW his];exact hun
  have hu' :hM (done.setIfInBounds i true)=fuel:=by have:=lI hun;omega
  have huq: ∀ac,o.dst=some ac-> ∀j p,(l++t)[j]? =some p->done.getD j false=true->p.dst=some ac->i=j:=fun ac hdd j p hj hjd hpd=>by
   rcases jq j l.length with h' |h'
   ·exact hs2 i j o p ac hol (hL1 j p h' hj) hdd hpd
   ·rw [hfree j h']at hjd;cases hjd
  have hfree' : ∀j,l.length<=j->(done.setIfInBounds i true).getD j false=false:=fun j hj=>by
   rw [wt false (by omega)];exact hfree j hj
  have hbl:E.base<=w.heap.size:=h.ext.size
  have hwaits: ∀q,(l++t)[i]? =some q-> ∀e∈q.after,Region.binds .any e=true->done.getD e.on false=true:=fun q hq e he D=>by
   have:q=o:=by rw [ho']at hq;simpa using hq.symm
   subst this
   exact hwait e he D
  have hdpp: ∀k∈u.1,k=i\/done.getD k false=true:=fun k hk=>by
   have:=kU.1 h4 k hk
   simp only [lG,xf]at this
   rcases this.2 with D|D
   ·exact .inl (kR D)
   ·exact .inr (ej h.down _ i k hwaits D)
  have hdNN: ∀ac,o.dst=some ac->ac<E.N.n:=fun ac hd=>(hs1 o (qu hol) ac hd).1
  unfold wpOpIn
  rw [ho]
  show if _ then _ else _
  cases e with
  |false=>
   simp only at h5
   obtain⟨hdS,lo,hi',hwin,h5⟩:=h5
   rw [qr]at hwin
   obtain⟨ac,hdd⟩:=Option.isSome_iff_exists.1 hdS
   have hdN:=(hs1 o (qu hol) ac hdd).1
   unfold Le at hwin
   rw [lG]at hwin
   obtain⟨hw1,hw2⟩:=hwin
   have hw1' :=mP hw1
   have hwk: ∀k,es[k]? =some true->(Nat.ble lo (ep es k)=true\/jh (l++t) (l++t).length i k=true)/\(Nat.blt (ep es k) hi' =true\/jh (l++t) (l++t).length k i=true):=fun k hk=>by
    have hkl:k<es.length:=(mO.1 hk).1
    have:=kU.1 hw2 k (by simpa using hkl)
    rw [hk]at this
    simpa using this
   have hlo:lo<=c:=by
    rcases jq c lo with hlt|hge
    ·exfalso
     obtain⟨k,hk1,hk2,hk3⟩:=qd (es:=es) (c:=c) (k:=es.length) (by omega)
     rcases(hwk k hk2).1 with D|D
     ·have:=mP D;omega
     ·have:=(h.chain k hk2).1 (ej h.down _ i k hwaits D)
      omega
    ·exact hge
   have hhi:c<=hi' :=by
    rcases jq hi' c with hlt|hge
    ·exfalso
     obtain⟨k,hk1,hk2,hk3⟩:=qd (es:=es) (c:=hi') (k:=es.length) (by omega)
     rcases(hwk k hk2).2 with D|D
     ·simp only [qx]at D;omega
     ·have hkd:done.getD k false=true:=(h.chain k hk2).2 (by omega)
      have:=ej h.down _ k i (fun q hq e he D=>h.down k q hq hkd e he D) D
      rw [this]at hun';cases hun'
    ·exact hge
   have h6:=h5 c σ hlo hhi a w S h.sat h.own hF
   have hch' : ∀k,es[k]? =some true->((done.setIfInBounds i true).getD k false=true↔ep es k<c):=fun k hk=>by
    have hne:i≠k:=fun e=>by subst e;rw [he]at hk;cases hk
    rw [wt false hne];exact h.chain k hk
   by_cases hw:Region.wanted o (yielded (l++t).toArray a.tmps)=true
   ·rw [fE hw]at h6 ⊢
    refine gT (fun a' w' ⟨v,S',ha,A,hs,hv⟩=>?_) h6
    subst ha
    exact ih _ _ _ S' _ c hu' hfree' hcle (h.step ho' hdNN huq hwait H hun hdpp A (fun _ D=>D.elim) hs (h.own.ext0 A) (fun _ _=>rfl) hv hch')
   ·rw [cS hw]at h6 ⊢
    exact⟨fun _ _=>trivial,ih _ _ _ S _ c hu' hfree' hcle (h.step ho' hdNN huq hwait H hun hdpp (gj.refl oE _ _) (fun _ D=>D.elim) h.sat h.own (fun _ _=>rfl) h6 hch')⟩
  |true=>
   simp only [qr]at h5
   -- it is the next one of the chain
   have hca:ep es i=c:=by
    have hn: ¬ep es i<c:=fun hlt=>by rw [(h.chain i he).2 hlt]at hun';cases hun'
    rcases jq c (ep es i)with hlt|hge
    ·exfalso
     obtain⟨k,hk1,hk2,hk3⟩:=qd hlt
     have hkd:done.getD k false=true:=ej h.down _ i k hwaits (hchain i k hk1 he hk2)
     have:=(h.chain k hk2).1 hkd
     omega
    ·omega
   subst hca
   have h6:=h5 σ a w S h.sat h.own hF hbl
   have hch' : ∀k,es[k]? =some true->((done.setIfInBounds i true).getD k false=true↔ep es k<ep es i+1):=fun k hk=>by
    by_cases hik:i=k
    ·subst hik
     constructor
     ·intro _;omega
     ·intro _;simp [his]
    ·rw [wt false hik,h.chain k hk]
     constructor
     ·intro h;omega
     ·intro hlt
      rcases jq i k with hlk|hlk
      ·have:=yr hlk he;omega
      ·exact yr (by omega) hk
   have hcle' :ep es i+1<=ep es es.length:=yr (by omega) he
   by_cases hw:Region.wanted o (yielded (l++t).toArray a.tmps)=true
   ·rw [fE hw]at h6 ⊢
    refine gT (fun a' w' ⟨v,S',x,ha,A,hs,hown,hv⟩=>?_) h6
    subst ha
    exact ih _ _ _ S' _ _ hu' hfree' hcle' (h.step ho' hdNN huq hwait H hun hdpp A (fun b ⟨f,hf,D⟩=>(cr.mem h.own f hf).2 b D) hs hown (fun k hk=>An σ x hk) hv hch')
   ·rw [cS hw]at h6 ⊢
    obtain⟨x,hown,hv⟩:=h6
    exact⟨fun _ _=>trivial,ih _ _ _ S _ _ hu' hfree' hcle' (h.step ho' hdNN huq hwait H hun hdpp (gj.refl oE _ _) (fun _ D=>D.elim) h.sat hown (fun k hk=>An σ x hk) hv hch')⟩
variable{O:List OE}
def eh{id:Nat}(m:Nat)(ts:List TS)(es:List Bool)(Ss:List ((Nat->OI)->List OE))(hO:Ss[0]? =some fun _=>O)(hm:E.P.follows .mixedOrders=true)(hsl:qH E.N.n [] (L.take m)=true)(hlen:ts.length=(L.take m).length)(hesl:es.length=(L.take m).length)(hch:D3 L es=true)(Y:su L (L.take m).length (L.drop m).length=true)(hd:DS E G L ts Ss es 0 0 (L.take m) es)(k: ∀σ:Nat->OI,RG E L.toArray ay (L.drop m) (GO Ss (ep es es.length) σ) (BY (L.take m) (Iz ts σ) G)):CG E ay (.region id L.toArray true) O G:=fun a w S st=>by
 have hL:L=L.take m++L.drop m:=(o8 m L).symm
 generalize L.take m=l at hL hsl hlen hesl Y hd k
 generalize L.drop m=t at hL Y k
 subst hL
 refine wpIn_region_any hm ?_
 obtain⟨he,hs⟩:=uS (w:=w) st.sat
 have hO0:GO Ss 0 (fun _=>kT)=O:=by unfold GO;rw [hO]
 refine BA hsl hlen hesl hd hch Y (fun a w S σ st=>k σ a w S st) _ _ _ _ S (fun _=>kT) 0 ?_ (fun j _=>?_) (iM _)
  ⟨st.ext.step0 he,hs,by rw [hO0];exact st.own.ext0 he,st.facts.size,st.facts.defers,by simp,fun j o hj hdone=>?_,fun k t hk _=>st.facts.at_ k t hk,fun j o ac t hj hdone=>?_,fun j p hdone=>?_,fun k _=>⟨fun hdone=>?_,fun h=>(by omega)⟩⟩
 ·unfold hM;rw [Eo,Ej];simp
 ·simp [sK];split<;>rfl
 ·simp [sK]at hdone
  split at hdone<;>simp at hdone
 ·simp [sK]at hdone
  split at hdone<;>simp at hdone
 ·simp [sK]at hdone
  split at hdone<;>simp at hdone
 ·simp [sK]at hdone
  split at hdone<;>simp at hdone
def d6{p:Nat->(Nat->OI)->Prop}{lo:Nat}(h: ∀σ,p lo σ): ∀c σ,lo<=c->c<=lo->p c σ:=fun c σ H J=>by
 have:c=lo:=by omega
 subst this;exact h σ
def nA{p:Nat->(Nat->OI)->Prop}{lo hi:Nat}(h: ∀σ,p lo σ)(k: ∀c σ,lo+1<=c->c<=hi->p c σ): ∀c σ,lo<=c->c<=hi->p c σ:=fun c σ H J=>by
 by_cases e:c=lo
 ·subst e;exact h σ
 ·exact k c σ (by omega) J
variable{after:Array Edge}{g:Option (Nat×Bool)}{ok:α->Prop}{op:Op}{pos:String}{post:OI->List OE}
def uF{ty:TypeId}(hnd: ∀c,op≠ .defer c)(h: ∀a w S,hY w S->cr E.base E.B w S O->cH E.N S a G->E.base<=w.heap.size-> ∃w' S' x,(execOp a.eval ⟨none,op,ty,pos,after,g⟩).run E.P w= .ok .skip w' /\gj (EV O) w S w' S' /\hY w' S' /\cr E.base E.B w' S' (post x)):
  EffOK E O G ⟨none,op,ty,pos,after,g⟩ post (fun _=>oX):=fun a w S hs ho hf D=>by
 obtain⟨w',S',x,H,J,h3,h4⟩:=h a w S hs ho hf D
 refine⟨hnd,?_⟩
 rw [H]
 exact⟨undef,S',x,rfl,J,h3,h4,trivial⟩

abbrev HL:=List (Nat×Value)
def uq:HL->Nat->Option Value
 |[],_=>none
 |p::hs,o=>bif Nat.beq p.1 o then some p.2 else uq hs o
def pk: ∀{hs:HL} {o:Nat} {v:Value},uq hs o=some v->(o,v)∈hs
 |[],_,_,h=>by cases h
 |p::hs,o,v,h=>by
  unfold uq at h
  by_cases D:Nat.beq p.1 o=true
  ·rw [D]at h
   have e1:=kR D
   have e2:p.2=v:=kP h
   subst e1 e2
   exact oh ..
  ·rw [uT]at D
   rw [D]at h
   exact oj _ (pk h)
def rH{α:Type}(r:Rp α)(hs:HL):Rp α where
 sz:=r.sz
 agg:=r.agg
 rc:=fun S cs x=>r.rc S cs x/\ ∀p∈hs,cs[p.1]? =some p.2
 mono:=fun h k=>⟨r.mono h k.1,k.2⟩
 len:=fun k=>r.len k.1
 one:=fun k=>r.one k.1
 sc:=r.sc
variable{cs:List Value}{off:Nat}
def nh{hs:HL}{get:α->β}(h:fW r off q get):fW (rH r hs) off q get:=fun S cs x k=>h S cs x k.1
def Gs(h:cs[off]? =some v):(cs.drop off).take 1=[v]:=by
 have hlt:=(mO.1 h).1
 rw [uW hlt,(mO.1 h).2]
 rfl
def Pn{hs:HL}(h:uq hs off=some v):fW (rH r hs) off rV (fun _=>v):=fun S cs x k=>by
 have H:=k.2 _ (pk h)
 exact⟨Gs H,r.one k.1 v (qu H)⟩
def HZ(z:List Value):HL->Prop
 |[]=>True
 |p::hs=>z[p.1]? =some p.2/\HZ z hs
variable{z:List Value}
def HZ.all: ∀{hs:HL},HZ z hs-> ∀p∈hs,z[p.1]? =some p.2
 |_::_,⟨h,_⟩,_,.head _=>h
 |_::_,⟨_,h⟩,_,.tail _ hm=>HZ.all h _ hm
def zH{x:α}{hs:HL}(h: ∀S,r.rc S z x)(k:HZ z hs): ∀S,(rH r hs).rc S z x:=fun S=>⟨h S,k.all⟩
def Lv(hs:HL)(off sz:Nat):Bool:=hs.all fun p=>Nat.blt p.1 off||Nat.ble (off+sz) p.1
def Mv(hs:HL)(off sz:Nat)(v:Option Value):HL->Prop
 |[]=>True
 |p::l=>((v=some p.2/\p.1=off/\sz=1)\/(uq hs p.1=some p.2/\(Nat.blt p.1 off||Nat.ble (off+sz) p.1)=true))/\Mv hs off sz v l
variable{sz:Nat}
def Mv.all{hs:HL}{v:Option Value}: ∀{l:HL},Mv hs off sz v l-> ∀p∈l,(v=some p.2/\p.1=off/\sz=1)\/(uq hs p.1=some p.2/\(Nat.blt p.1 off||Nat.ble (off+sz) p.1)=true)
 |_::_,⟨h,_⟩,_,.head _=>h
 |_::_,⟨_,h⟩,_,.tail _ hm=>Mv.all h _ hm
def q8{ds:List Value}{k:Nat}(hl:ds.length=sz)(hoff:off+sz<=cs.length)(h:(Nat.blt k off||Nat.ble (off+sz) k)=true):(cs.take off++ds++cs.drop (off+sz))[k]? =cs[k]? :=by
 simp only [xf,qx,Nat.ble_eq]at h
 have Y:(cs.take off).length=off:=by simp;omega
 rcases h with h|h
 ·rw [yI (by simp;omega),yI (by omega),uV h]
 ·rw [List.getElem?_append_right (by simp;omega),sd]
  congr 1
  simp only [j6,Y,hl];omega
def Id{ds:List Value}(hd:ds=[v])(hoff:off+1<=cs.length):(cs.take off++ds++cs.drop (off+1))[off]? =some v:=by
 subst hd
 have Y:(cs.take off).length=off:=by simp;omega
 rw [yI (by simp;omega),List.getElem?_append_right (by omega),Y,Nat.sub_self]
 rfl
variable{set:α->β->α}{y:α}
def sv{hs hs' :HL}{x:α}{y:β}(h:dk r off q set)(hk:Mv hs off q.sz none hs')(hoff:Nat.ble (off+q.sz) r.sz=true):mE (rH r hs) (rH r hs') off q x y (set x y):=fun S cs ds H J=>by
 refine⟨h S cs x ds y H.1 J,fun p hp=>?_⟩
 rcases hk.all p hp with⟨e,_⟩|⟨g1,g2⟩
 ·cases e
 ·have hl:=r.len H.1
  rw [q8 (q.len J) (by have:=mP hoff;omega) g2]
  exact H.2 _ (pk g1)
def BJ{hs:HL}(h:dk r off q set)(hk:Lv hs off q.sz=true)(hoff:Nat.ble (off+q.sz) r.sz=true):dk (rH r hs) off q set:=fun S cs x ds y H J=>by
 refine⟨h S cs x ds y H.1 J,fun p hp=>?_⟩
 have hl:=r.len H.1
 rw [q8 (q.len J) (by have:=mP hoff;omega) (kU.1 hk p hp)]
 exact H.2 _ hp
variable{T U:TypeId}{tD:MV β}{agg:Bool}{bytes cap:Nat}{dst:Option Tmp}{ops:Array Oper}{r' :Rp α}{rest:List Oper}{xs:List α}{γ:β->Ty}
section
variable{e:Exit}
section
variable{ty:TypeId}
def fC{t:OI->Ty}(h:EffOK E O G ⟨none,op,ty,pos,after,none⟩ post t)(k: ∀x,RG E ops ay rest (post x) G):RG E ops ay (⟨none,op,ty,pos,after,none⟩::rest) O G:= .of rfl fun a w S st=>
 jT (fun a' w' ⟨v,S',x,ha,A,hs,ho,hv⟩=>by
  subst ha
  exact k x _ _ S' ⟨st.ext.step A fun b ⟨f,hf,D⟩=>(cr.mem st.own f hf).2 b D,hs,ho,st.facts.mono A.keep⟩) (h a w S st.sat st.own st.facts st.base_le)
def cZ{γ:Type}{r' :Rp γ}{x:α}{x' :γ}{y:β}{v:Operand}(ti:TI E.P U sz bytes agg z)(hsz:q.sz=sz)(hset:mE r r' off q x y x')(hoff:Nat.ble (off+q.sz) r.sz=true)(hp:ax E.N G p (tV (aj b off)))(hv:ax E.N G v (V q y)):EffOK E (bx r T b x::O) G ⟨none,.store U p v,ty,pos,after,g⟩ (fun _=>bx r' T b x' ::O) (fun _=>oX):=uF (fun _ h=>(by cases h)) fun a w S hs ho hf D=>by
 have H:a.eval p=aj b off:=hp S a hf
 obtain⟨ds,J,h3⟩:=hv S a hf
 obtain⟨⟨hno,cur,h5,h6⟩,_⟩:=ho.1
 have hl:=r.len h6
 have hoff' :=mP hoff
 obtain⟨w',hr,e1,e2,e3,e4,e5,e6⟩:=fj ti hsz h3 h5 (off:=off) (by simp at hl;omega)
 have hrun:(execOp a.eval ⟨none,.store U p v,ty,pos,after,g⟩).run E.P w= .ok .skip w' :=by
  simp [execOp,H,J,Instr.storeAt,aj,Instr.sureAddr,hr]
 obtain⟨g1,g2,g3⟩:=iy (O:=O) hs (bx r T b x) (bx r' T b x') ho (fun _=>ot) (fun _=>ot) ⟨e1,e2,e3,e4.1,e4.2⟩ e6 ⟨hno,_,e5,by simpa using hset S _ _ h6 h3⟩ hno
 exact⟨w',S,kT,hrun,g1.more fun k hk=>⟨_,oh ..,hk⟩,g2,g3⟩
def iV{hs hs' :HL}{x:α}{y:β}{u:Value}{v:Operand}(ti:TI E.P U 1 bytes false z)(hsz:q.sz=1)(hag:q.agg=false)(hset:dk r off q set)(hoff:Nat.ble (off+1) r.sz=true)(hk:Mv hs off 1 (some u) hs')(hp:ax E.N G p (tV (aj b off)))(hv:ax E.N G v (V q y))(hu:ax E.N G v (tV u)):EffOK E (bx (rH r hs) T b x::O) G ⟨none,.store U p v,ty,pos,after,g⟩ (fun _=>bx (rH r hs') T b (set x y)::O) (fun _=>oX):=uF (fun _ h=>(by cases h)) fun a w S hsat ho hf D=>by
 have H:a.eval p=aj b off:=hp S a hf
 obtain⟨ds,J,h3⟩:=hv S a hf
 have hu' :a.eval v=u:=hu S a hf
 obtain⟨⟨hno,cur,h5,h6⟩,_⟩:=ho.1
 have hl:=r.len h6.1
 have hoff' :=mP hoff
 have hdl:=q.len h3
 have hds:ds=[u]:=by
  obtain⟨ac,hd⟩:=List.length_eq_one_iff.1 (by rw [hdl,hsz]:ds.length=1)
  subst hd
  have e1:q.val [ac]=ac:=by simp [Rp.val,hag]
  rw [J,e1]at hu'
  rw [hu']
 obtain⟨w',hr,e1,e2,e3,e4,e5,e6⟩:=fj ti hsz h3 h5 (off:=off) (by simp at hl;omega)
 have hrun:(execOp a.eval ⟨none,.store U p v,ty,pos,after,g⟩).run E.P w= .ok .skip w' :=by
  simp [execOp,H,J,Instr.storeAt,aj,Instr.sureAddr,hr]
 rw [hsz]at e5
 have hnew:(rH r hs').rc S (cur.toList.take off++ds++cur.toList.drop (off+1)) (set x y):=by
  have h7:=hset S _ _ _ _ h6.1 h3
  rw [hsz]at h7
  refine⟨h7,fun p hp=>?_⟩
  rcases hk.all p hp with⟨f1,f2,_⟩|⟨f1,f2⟩
  ·rw [f2]
   exact Id (by rw [hds,kP f1]) (by omega)
  ·rw [q8 (by rw [hdl,hsz]) (by omega) f2]
   exact h6.2 _ (pk f1)
 obtain⟨g1,g2,g3⟩:=iy (O:=O) hsat (bx (rH r hs) T b x) (bx (rH r hs') T b (set x y)) ho (fun _=>ot) (fun _=>ot) ⟨e1,e2,e3,e4.1,e4.2⟩ e6 ⟨hno,_,e5,by simpa using hnew⟩ hno
 exact⟨w',S,kT,hrun,g1.more fun k hk=>⟨_,oh ..,hk⟩,g2,g3⟩
end
section
variable{ty:TypeId}
def kp{hs:HL}{x:α}{u:Value}(ti:TI E.P U 1 bytes false z)(hk:uq hs off=some u)(hm:bx (rH r hs) T b x∈O)(hp:ax E.N G p (tV (aj b off))):
  bE E O G ⟨dst,.load U p,ty,pos,after,g⟩ (tV u):=(bm (q:=rV) ti rfl rfl (Pn hk) hm hp).imp fun _ _ h=>(tR.1 h).1
def dA{q:Rp α}{r:Rp β}{hs:HL}{x:β}{tD:TypeId}{l:Option Nat}(ti:TI E.P U 1 bytes false z)(hk:uq hs off=some (M l cap xs.length))(hm:bx (rH r hs) T b x∈O)(hm2:Z q tD l cap xs∈O)(hp:ax E.N G p (tV (aj b off))):
  bE E O G ⟨dst,.load U p,ty,pos,after,g⟩ (tO q l cap xs):=fun a w S hs' ho hf=>
 jT (fun _ _ ⟨v,S',H,J,h3,h4⟩=>⟨v,S',H,J,h3,h4,by
  have h5:v=M l cap xs.length:=h4
  rw [h5]
  exact ir (((ho.ext0 J).mem _ hm2).1)⟩) (kp (g:=g) (ty:=ty) (pos:=pos) (after:=after) (dst:=dst) ti hk hm hp a w S hs' ho hf)
def I2{t:Ty}(H: ∀S v,t.p S v->v.oneCell' =true)(A:ax E.N G x t):bE E O G ⟨dst,.box T x,ty,pos,after,g⟩ (bb (rT t) ()):=
 Dt (fun S a hf=>OO.2 ⟨H _ _ (A S a hf),A S a hf⟩)
end
def IV:HL->HL->Prop
 |[],_=>True
 |p::l,hs=>uq hs p.1=some p.2/\IV l hs
def IV.all{hs:HL}: ∀{l:HL},IV l hs-> ∀p∈l,p∈hs
 |_::_,⟨h,_⟩,_,.head _=>pk h
 |_::_,⟨_,h⟩,_,.tail _ hm=>IV.all h _ hm
end

variable{B:Nat->Prop}{base:Nat}{x0 x1 x10 x11 x12 x13 x2 x3 x4 x5 x6 x7 x8 x9:OE}
def rf(h:cr base B w S (x0::x1::x2::x3::x4::x5::x6::x7::x8::x9::x10::x11::x12::x13::O)):cr base B w S (x13::x0::x1::x2::x3::x4::x5::x6::x7::x8::x9::x10::x11::x12::O):=
 (iI h rh (fun f hf=>by simp only [mJ]at hf ⊢;rcases hf with h|h|h|h|h|h|h|h|h|h|h|h|h|h<;>simp [h])).swap
def yv(h:RG E ops ay rest (x13::x0::x1::x2::x3::x4::x5::x6::x7::x8::x9::x10::x11::x12::O) G):RG E ops ay rest (x0::x1::x2::x3::x4::x5::x6::x7::x8::x9::x10::x11::x12::x13::O) G:=fun a w S st=>h a w S (st.own_map rf)
def Ef{e:Exit}(h:AT E ay e (x13::x0::x1::x2::x3::x4::x5::x6::x7::x8::x9::x10::x11::x12::O) G):AT E ay e (x0::x1::x2::x3::x4::x5::x6::x7::x8::x9::x10::x11::x12::x13::O) G:=fun a w S st=>h a w S (st.own_map rf)
def Cy{x14:OE}(h:cr base B w S (x0::x1::x2::x3::x4::x5::x6::x7::x8::x9::x10::x11::x12::x13::x14::O)):cr base B w S (x14::x0::x1::x2::x3::x4::x5::x6::x7::x8::x9::x10::x11::x12::x13::O):=
 (iI h rf (fun f hf=>by simp only [mJ]at hf ⊢;rcases hf with h|h|h|h|h|h|h|h|h|h|h|h|h|h|h<;>simp [h])).swap
def Ee{e:Exit}{x14:OE}(h:AT E ay e (x14::x0::x1::x2::x3::x4::x5::x6::x7::x8::x9::x10::x11::x12::x13::O) G):AT E ay e (x0::x1::x2::x3::x4::x5::x6::x7::x8::x9::x10::x11::x12::x13::x14::O) G:=fun a w S st=>h a w S (st.own_map Cy)
variable{O' :List OE}
def EffOK.perm{t:OI->Ty}(h:EffOK E O' G o post t)(k: ∀{w S},cr E.base E.B w S O->cr E.base E.B w S O')(m: ∀f∈O',f∈O):EffOK E O G o post t:=fun a w S hs ho hf D=>
 jT (fun _ _ ⟨v,S',x,H,J,h3,h4,h5⟩=>⟨v,S',x,H,J.more fun _ ⟨f,hf,hk⟩=>⟨f,m f hf,hk⟩,h3,h4,h5⟩) (h a w S hs (k ho) hf D)
namespace EffOK
section
variable{t:OI->Ty}
def fr1(h:EffOK E (x1::x0::O) G o post t):EffOK E (x0::x1::O) G o post t:=h.perm (fun hw=>cr.swap hw) (fun f hf=>by simp only [mJ]at hf ⊢;rcases hf with h|h|h<;>simp [h])
def fr2(h:EffOK E (x2::x0::x1::O) G o post t):EffOK E (x0::x1::x2::O) G o post t:=h.perm (fun hw=>mb hw) (fun f hf=>by simp only [mJ]at hf ⊢;rcases hf with h|h|h|h<;>simp [h])
def fr3(h:EffOK E (x3::x0::x1::x2::O) G o post t):EffOK E (x0::x1::x2::x3::O) G o post t:=h.perm (fun hw=>oa hw) (fun f hf=>by simp only [mJ]at hf ⊢;rcases hf with h|h|h|h|h<;>simp [h])
def fr4(h:EffOK E (x4::x0::x1::x2::x3::O) G o post t):EffOK E (x0::x1::x2::x3::x4::O) G o post t:=h.perm (fun hw=>n9 hw) (fun f hf=>by simp only [mJ]at hf ⊢;rcases hf with h|h|h|h|h|h<;>simp [h])
def fr5(h:EffOK E (x5::x0::x1::x2::x3::x4::O) G o post t):EffOK E (x0::x1::x2::x3::x4::x5::O) G o post t:=h.perm (fun hw=>n8 hw) (fun f hf=>by simp only [mJ]at hf ⊢;rcases hf with h|h|h|h|h|h|h<;>simp [h])
def fr6(h:EffOK E (x6::x0::x1::x2::x3::x4::x5::O) G o post t):EffOK E (x0::x1::x2::x3::x4::x5::x6::O) G o post t:=h.perm (fun hw=>n7 hw) (fun f hf=>by simp only [mJ]at hf ⊢;rcases hf with h|h|h|h|h|h|h|h<;>simp [h])
def fr7(h:EffOK E (x7::x0::x1::x2::x3::x4::x5::x6::O) G o post t):EffOK E (x0::x1::x2::x3::x4::x5::x6::x7::O) G o post t:=h.perm (fun hw=>tt hw) (fun f hf=>by simp only [mJ]at hf ⊢;rcases hf with h|h|h|h|h|h|h|h|h<;>simp [h])
def fr8(h:EffOK E (x8::x0::x1::x2::x3::x4::x5::x6::x7::O) G o post t):EffOK E (x0::x1::x2::x3::x4::x5::x6::x7::x8::O) G o post t:=h.perm (fun hw=>qf hw) (fun f hf=>by simp only [mJ]at hf ⊢;rcases hf with h|h|h|h|h|h|h|h|h|h<;>simp [h])
def fr9(h:EffOK E (x9::x0::x1::x2::x3::x4::x5::x6::x7::x8::O) G o post t):EffOK E (x0::x1::x2::x3::x4::x5::x6::x7::x8::x9::O) G o post t:=h.perm (fun hw=>qe hw) (fun f hf=>by simp only [mJ]at hf ⊢;rcases hf with h|h|h|h|h|h|h|h|h|h|h<;>simp [h])
def fr10(h:EffOK E (x10::x0::x1::x2::x3::x4::x5::x6::x7::x8::x9::O) G o post t):EffOK E (x0::x1::x2::x3::x4::x5::x6::x7::x8::x9::x10::O) G o post t:=h.perm (fun hw=>mG hw) (fun f hf=>by simp only [mJ]at hf ⊢;rcases hf with h|h|h|h|h|h|h|h|h|h|h|h<;>simp [h])
def fr11(h:EffOK E (x11::x0::x1::x2::x3::x4::x5::x6::x7::x8::x9::x10::O) G o post t):EffOK E (x0::x1::x2::x3::x4::x5::x6::x7::x8::x9::x10::x11::O) G o post t:=h.perm (fun hw=>mF hw) (fun f hf=>by simp only [mJ]at hf ⊢;rcases hf with h|h|h|h|h|h|h|h|h|h|h|h|h<;>simp [h])
def post_imp{post' :OI->List OE}(h:EffOK E O G o post t)(k: ∀{w S x},cr E.base E.B w S (post x)->cr E.base E.B w S (post' x)):EffOK E O G o post' t:=fun a w S hs ho hf D=>
 jT (fun _ _ ⟨v,S',x,H,J,h3,h4,h5⟩=>⟨v,S',x,H,J,h3,k h4,h5⟩) (h a w S hs ho hf D)
end
end EffOK
variable{P:Program}{cells:List Value}{mm:Bool}{ys zs:List α}
section
variable{ty:TypeId}
def te{l:Option Nat}{foff:Nat}{v:β}{i:Int}(ti:TI E.P T sz bytes agg z)(hsz:q.sz=sz)(hset:dk r foff q set)(hoff:Nat.ble (foff+q.sz) r.sz=true)(hy:gI xs i=some y)(hz:xs.set i.toNat (set y v)=zs)(hp:ax E.N G p (tV (cv l (i.toNat*r.sz+foff))))(A:ax E.N G x (V q v)):EffOK E (eg r U l cap xs::O) G ⟨none,.store T p x,ty,pos,after,g⟩ (fun _=>eg r U l cap zs::O) (fun _=>oX):=uF (fun _ h=>(by cases h)) fun a w S hsat hown hf hbase=>by
 subst hz
 have H:a.eval p=cv l (i.toNat*r.sz+foff):=hp S a hf
 obtain⟨ds,J,h3⟩:=A S a hf
 obtain⟨h0,hy'⟩:=fK hy
 have hlt:i.toNat<xs.length:=(mO.1 hy').1
 obtain⟨cells,hraw,hrc,hno⟩:=hown.1.1
 obtain⟨b,cur,rfl,D,hle,hcs,h6⟩:=k8 hown.1.1 hy'
 obtain⟨cur',hb',hle',hmax,hcs',hct⟩:=hraw
 have hcc:cur' =cur:=by rw [D]at hb';injection hb' with e;injection e with e1;exact e1.symm
 subst hcc
 have hno' :S b=none:=hno b rfl
 have hoff' :=mP hoff
 have hl3:=q.len h3
 have hmul:i.toNat*r.sz+r.sz<=xs.length*r.sz:=by rw [<-Nat.succ_mul];exact sJ _ hlt
 have hmul2:xs.length*r.sz<=cur'.size:=by rw [hcs];exact sJ _ hle
 obtain⟨w',hr,e1,e2,e3,e4,e5,e6⟩:=fj ti hsz h3 D (off:=i.toNat*r.sz+foff) (by omega)
 have hrun:(execOp a.eval ⟨none,.store T p x,ty,pos,after,g⟩).run E.P w= .ok .skip w' :=by
  simp [execOp,H,J,Instr.storeAt,cv,aj,Instr.sureAddr,hr]
 have hnew:=hset S _ _ _ _ h6 h3
 have hrc' :=ud hnew hrc hlt
 have hcl:=gX hrc
 have hcells:(cur'.toList.take (i.toNat*r.sz+foff)++ds++cur'.toList.drop (i.toNat*r.sz+foff+q.sz)).take (xs.length*r.sz)=
   cells.take (i.toNat*r.sz)++(((cur'.toList.drop (i.toNat*r.sz)).take r.sz).take foff++ds++((cur'.toList.drop (i.toNat*r.sz)).take r.sz).drop (foff+q.sz))++cells.drop (i.toNat*r.sz+r.sz):=by
  subst hct
  apply Bt
  intro j
  simp only [List.getElem?_take,List.getElem?_append,sd,wv,Ac,j6,yH]
  rcases jq j (xs.length*r.sz)with hj|hj
  ·simp only [hj,qw]
   rcases jq j (i.toNat*r.sz)with hj1|hj1
   ·rw [fE (by omega),fE (by omega),fE (by omega),fE (by omega),fE (by omega),fE (by omega)]
   ·rcases jq j (i.toNat*r.sz+foff)with hj2|hj2
    ·rw [fE (by omega),fE (by omega),fE (by omega),fE (by omega),cS (by omega),fE (by omega),fE (by omega),fE (by omega),fE (by omega)]
     congr 1;omega
    ·rcases jq j (i.toNat*r.sz+foff+q.sz)with hj3|hj3
     ·rw [fE (by omega),cS (by omega),fE (by omega),cS (by omega),fE (by omega),cS (by omega)]
      congr 1;omega
     ·rw [cS (by omega)]
      rcases jq j (i.toNat*r.sz+r.sz)with hj4|hj4
      ·rw [fE (by omega),cS (by omega),cS (by omega),fE (by omega)]
       congr 1;omega
      ·rw [cS (by omega),fE (by omega)]
       congr 1;omega
  ·rw [cS (by omega),cS (by omega),cS (by omega)]
 obtain⟨g1,g2,g3⟩:=iy (O:=O) hsat (eg r U (some b) cap xs) (eg r U (some b) cap (xs.set i.toNat (set y v))) hown (fun k=>⟨fun h=>(kP h).symm,fun h=>by rw [h];rfl⟩) (fun k=>⟨fun h=>(kP h).symm,fun h=>by rw [h];rfl⟩) ⟨e1,e2,e3,e4.1,e4.2⟩ e6
  ⟨_,⟨_,e5,by rw [CI];exact hle,hmax,by simp only [CL,j6,wv,Ac,yH];omega,by rw [CI];exact hcells⟩,hrc',fun k hk=>by rw [<-kP hk];exact hno'⟩ hno'
 exact⟨w',S,kT,hrun,g1.more fun c hc=>⟨_,oh ..,by rw [hc];rfl⟩,g2,g3⟩
def DQ{v:α}{i:Int}(ti:TI E.P U sz bytes agg z)(hsz:r.sz=sz)(hy:gI xs i=some y)(hz:xs.set i.toNat v=zs)(hp:ax E.N G p (tV (aj b (i.toNat*r.sz))))(hv:ax E.N G x (V r v)):EffOK E (bx (lC r n) T b xs::O) G ⟨none,.store U p x,ty,pos,after,g⟩ (fun _=>bx (lC r n) T b zs::O) (fun _=>oX):=uF (fun _ h=>(by cases h)) fun a w S hsat hown hf hbase=>by
 subst hz
 have H:a.eval p=aj b (i.toNat*r.sz):=hp S a hf
 obtain⟨ds,J,h3⟩:=hv S a hf
 obtain⟨⟨hno,cur,h5,h6⟩,_⟩:=hown.1
 obtain⟨h0,hy'⟩:=fK hy
 have hlt:i.toNat<xs.length:=(mO.1 hy').1
 have hl:=gX h6.2
 simp only [yH]at hl
 have hmul:i.toNat*r.sz+r.sz<=xs.length*r.sz:=by rw [<-Nat.succ_mul];exact sJ _ hlt
 obtain⟨w',hr,e1,e2,e3,e4,e5,e6⟩:=fj ti hsz h3 h5 (off:=i.toNat*r.sz) (by omega)
 have hrun:(execOp a.eval ⟨none,.store U p x,ty,pos,after,g⟩).run E.P w= .ok .skip w' :=by
  simp [execOp,H,J,Instr.storeAt,aj,Instr.sureAddr,hr]
 obtain⟨g1,g2,g3⟩:=iy (O:=O) hsat (bx (lC r n) T b xs) (bx (lC r n) T b (xs.set i.toNat v)) hown (fun _=>ot) (fun _=>ot) ⟨e1,e2,e3,e4.1,e4.2⟩ e6 ⟨hno,_,e5,by rw [CI];exact h6.1,ud h3 h6.2 hlt⟩ hno
 exact⟨w',S,kT,hrun,g1.more fun c hc=>⟨_,oh ..,hc⟩,g2,g3⟩

section
def jZ{x:α}(ti:TI E.P T sz bytes agg z)(A: ∀S,r.rc S z x):
  EffOK E O G ⟨some ac,.alloc T,ty,pos,after,g⟩ (fun i=>bx r T (i.h 0).2 x::O) (fun i=>tV (aj (i.h 0).2 0)):=fun a w S hs ho hf D=>by
 obtain⟨zv,hzr,hzc⟩:=ti.zero w
 obtain⟨he,hs',hno⟩:=gr (w:=w) (.cells z.toArray T (0,0)) hs
 have hrun:(execOp a.eval ⟨some ac,.alloc T,ty,pos,after,g⟩).run E.P w= .ok (.value (aj w.heap.size 0)) (w.alloc (.cells z.toArray T (0,0))):=by
  simp [execOp,Instr.alloc,hzr,newVar,newRow,hzc,aj]
 refine⟨fun c h=>(by cases h),?_⟩
 rw [hrun]
 exact⟨_,S,oi none w.heap.size,rfl,he.more fun _ D=>D.elim,hs',nd ho he (e:=bx r T w.heap.size x) ⟨hno,z.toArray,yE w _,by simpa using A S⟩ (fun b D=>vT D.symm) D,rfl⟩
def vF{xs:List Operand}{ats:Array TypeId}(hc:af E.P f=true)(hs:fL E.P f ts false r T ys)(A:fM E.N G xs ts):
  EffOK E O G ⟨some ac,.call ⟨.value (.func f),xs.toArray,ats⟩,ty,pos,after,g⟩ (fun i=>eg r T (i.h 0).1 (i.h 0).2 ys::O) (fun i=>tV (M (i.h 0).1 (i.h 0).2 ys.length)):=Gk (mm:=false) hc hs A (fun _ _ _ _ _=>rfl)
end
section
def cy{l:Option Nat}{o i:Nat}(hf:aX E.P T i=some (off,sz))(h0:Nat.beq sz 0=false)(hm:gL mm r U l cap xs∈O)(hy:gI xs j=some y)(hp:ax E.N G p (tV (cv l o)))(he:o+off=n):
  bE E O G ⟨dst,.fieldAddr T p i,ty,pos,after,g⟩ (tV (cv l n)):=by
 subst he
 exact yQ hf h0 hm hy hp
def bo(A:ax E.N G x (tV (aj b off))):bE E O G ⟨dst,.nilCheck x,ty,pos,after,g⟩ (tV (aj b off)):= .of_pure fun a w S _ _ hf=>by
 have H:a.eval x=aj b off:=A S a hf
 exact⟨aj b off,by simp [execOp,H,aj],rfl⟩
def nJ{t:Ty}(ti:TI E.P U 1 bytes false z)(hp:ax E.N G p (bb (rT t) ())):bE E O G ⟨dst,.load U p,ty,pos,after,g⟩ t:=my ti hp
end
def i6(h:O=O')(k:RG E ops ay rest O' G):RG E ops ay rest O G:=by subst h;exact k
def hW{u:Value}(h:ax N G x (tV u))(ho:u.oneCell' =true):ax N G x (V rV u):=fun S a hf=>tR.2 ⟨h S a hf,ho⟩
def Na{t:Ty}(H: ∀S v,t.p S v->v.oneCell' =true)(h:ax N G x t):ax N G x (V (rT t) ()):=fun S a hf=>OO.2 ⟨H _ _ (h S a hf),h S a hf⟩
def IZ{args:α->List Ty}{res:β->Ty}{f:α->Option β}: ∀S v,(eV P args res f).p S v->v.oneCell' =true:=fun _ _ ⟨_,_,e,_⟩=>by rw [e];rfl
end

def BH{l:Option Nat}{t' e' :TypeId}(Y:P.underlying t' =some (.slice e'))(h:sm mm r U l cap xs w S)(hs:cB xs lo (xs.length:Int)=some ys):
  ∃news,Src P r.sz t' (jr r.sz l cap lo.toNat ys.length) ys.length news w/\mL r S news ys:=by
 obtain⟨cells,H,J,_⟩:=h
 obtain⟨lo',m,rfl,hm,h3,h4,rfl⟩:=ea hs
 have hm' :m=xs.length:=by omega
 subst hm'
 rw [Br,CK]
 cases l with
 |none=>
  have A:xs=[]:=uX H.1
  subst A
  exact⟨[],by simpa [jr] using Src.ofNil w Y 0,by simp [mL]⟩
 |some b=>
  obtain⟨cur,g1,g2,g3,g4,g5⟩:=H
  have hlen:(xs.drop lo').length=xs.length-lo' :=by simp
  have hcl:=gX J
  have hsp:xs=xs.take lo' ++xs.drop lo' :=(o8 lo' xs).symm
  have htl:(xs.take lo').length=lo' :=by simp;omega
  have hr:mL r S (cells.drop (lo' *r.sz)) (xs.drop lo'):=by
   rw [hsp]at J
   have:=(kI J).2
   rwa [htl]at this
  have hmul:lo' *r.sz<=xs.length*r.sz:=sJ _ h3
  refine⟨cells.drop (lo' *r.sz),?_,hr⟩
  unfold jr
  refine Src.ofSlice w Y _ _ _ _ (gX hr) (fun j u hu=>?_) (ue hr)
  by_cases hc:cap=lo'
  ·have:xs.drop lo' =[]:=se (by omega)
   rw [this]at hr
   have hr' :cells.drop (lo' *r.sz)=[]:=hr
   rw [hr']at hu;simp at hu
  ·simp only [hc,nu]
   rw [fc,rN g1]
   rw [sd,<-g5]at hu
   have hj:lo' *r.sz+j<xs.length*r.sz:=by
    have:=(mO.1 hu).1
    simp at this;omega
   rw [uV hj]at hu
   simpa using hu
section
variable{ty:TypeId}
def Gx{l:Option Nat}{yt:TypeId}(Y:E.P.underlying t=some (.slice e))(hm:gL mm r U l cap xs∈O)(hs:cB xs lo (xs.length:Int)=some ys)(A:ax E.N G x (tV (jr r.sz l cap lo.toNat ys.length)))(hd:Nat.blt ac E.N.n=true)(k: ∀b,(b=true->ys=[])->RG E ops ay rest O ((ac,V rB b)::G)):RG E ops ay (⟨some ac,.binOp .eql t x (.const (.slice none 0 0)) yt,ty,pos,after,none⟩::rest) O G:= .of rfl fun a w S st=>by
 have H:a.eval x=jr r.sz l cap lo.toNat ys.length:=A S a st.facts
 obtain⟨⟨cells,hraw,_⟩,_⟩:=st.own.mem _ hm
 have hcn:a.eval (.const (.slice none 0 0))= .slice none 0 0:=rfl
 cases l with
 |none=>
  have hx0:xs=[]:=uX hraw.1
  have hy0:ys=[]:=by
   obtain⟨lo',m,_,_,_,_,rfl⟩:=ea hs
   subst hx0;simp
  have h3:(Op.equal t (.slice none 0 0) (.slice none 0 0)).run E.P w= .ok true w:=AD fun ac=>by
   simp [Op.equalIn,mK Y]
  have hrun:(execOp a.eval ⟨some ac,.binOp .eql t x (.const (.slice none 0 0)) yt,ty,pos,after,none⟩).run E.P w= .ok (.value (.bool true)) w:=by
   simp [execOp,H,jr,hcn,eqGuard,binOp,h3]
  refine⟨fun c h=>(by cases h),?_⟩
  rw [hrun]
  exact k true (fun _=>hy0) _ _ S (st.step (gj.refl _ _ _) st.sat hd (fZ.2 rfl))
 |some b=>
  obtain⟨ad,hv⟩: ∃ad,jr r.sz (some b) cap lo.toNat ys.length= .slice (some ad) ys.length (cap-lo.toNat):=⟨_,rfl⟩
  have h3:(Op.equal t (.slice (some ad) ys.length (cap-lo.toNat)) (.slice none 0 0)).run E.P w= .ok false w:=AD fun ac=>by
   simp [Op.equalIn,mK Y]
  have hrun:(execOp a.eval ⟨some ac,.binOp .eql t x (.const (.slice none 0 0)) yt,ty,pos,after,none⟩).run E.P w= .ok (.value (.bool false)) w:=by
   simp [execOp,H,hv,hcn,eqGuard,binOp,h3]
  refine⟨fun c h=>(by cases h),?_⟩
  rw [hrun]
  exact k false (fun e=>(by cases e)) _ _ S (st.step (gj.refl _ _ _) st.sat hd (fZ.2 rfl))
def Eb{t' :TypeId}{l l2:Option Nat}{cap2:Nat}{us:List α}{y:Operand}(ti:TI E.P T sz bytes agg z)(hsz:r.sz=sz)(hz:Nat.beq z.length sz=true)(h0:Nat.blt 0 sz=true)(h128:Nat.ble bytes 2048=true)(Y:E.P.underlying t=some (.slice T))(ht' :t' =t)(hd:Nat.blt ac E.N.n=true)(A:ax E.N G x (tV (M l cap n)))(hm:gL mm r U l2 cap2 us∈eg r T l cap xs::O)(hs:cB us lo (us.length:Int)=some ys)(hy:ax E.N G y (tV (jr r.sz l2 cap2 lo.toNat ys.length)))(happ:mM xs ys=some zs)(k: ∀l' cap',RG E ops ay rest (eg r T l' cap' zs::O) ((ac,tV (M l' cap' zs.length))::G))(hn:n=xs.length:=by rfl):
  RG E ops ay (⟨some ac,.call ⟨.builtin .append,#[x,y],#[t,t']⟩,ty,pos,after,none⟩::rest) (eg r T l cap xs::O) G:=by
 subst ht'
 exact tp (u:=fun cap' l' =>tV (M l' cap' zs.length)) ti hsz hz h0 h128 Y hd A (fun a w S st=>by
  have H:a.eval y=jr r.sz l2 cap2 lo.toNat ys.length:=hy S a st.facts
  rw [H]
  exact BH Y (st.own.mem _ hm).1 hs) happ (fun _ _ _ _ _=>rfl) k hn
end

section
variable{args:α->List Ty}{it:It α}{fp:Nat->Prop}
end

section
variable{ty:TypeId}
end


def ig(P:Program){hx X ρ:Type}(args:hx->List Ty)(Ob:X->OI->List OE)(res:ρ->Ty)(f:X->hx->Option (ρ×X)):Ty where
 p:=fun S v=> ∀x y R,f x y=some R-> ∃fid fst cap,v= .func (.func fid) fst cap/\af P fid=true/\ ∀i w S' vs,lu S S' ->hY w S' ->sn S' (args y) vs->cr 0 oE w S' (Ob x i)->
  Calls P fid (fst++vs.toArray++cap) w fun en w' => ∃j v S'',en= .returned v/\(res R.1).p S'' v/\gj (EV (Ob x i)) w S' w' S'' /\hY w' S'' /\cr 0 oE w' S'' (Ob R.2 j)/\ ∀k,EV (Ob R.2 j) k->EV (Ob x i) k\/w.heap.size<=k
 mono:=fun h k x y R hf=>by
  obtain⟨fid,fst,cap,e,hc,hs⟩:=k x y R hf
  exact⟨fid,fst,cap,e,hc,fun i w S' vs hle=>hs i w S' vs (SH.le_trans h hle)⟩
variable{O1:List OE}
section
section
variable{ty:TypeId}
end
def pZ{hx X ρ:Type}{args:hx->List Ty}{Ob:X->OI->List OE}{res:ρ->Ty}{f:X->hx->Option (ρ×X)}{x:X}{y:hx}{R:ρ×X}{i:OI}{ty:TypeId}{fo:Operand}{xs:List Operand}{ats:Array TypeId}(Or:List OE)(hO:O=Ob x i++Or)(hf:ax E.N G fo (ig E.P args Ob res f))(hR:f x y=some R)(A:fM E.N G xs (args y))(hpost: ∀j,Ob R.2 j++Or=post j):
  EffOK E O G ⟨some ac,.call ⟨.value fo,xs.toArray,ats⟩,ty,pos,after,g⟩ post (fun _=>res R.1):=fun a w S hsat ho hF D=>by
 subst hO
 obtain rfl:(fun j=>Ob R.2 j++Or)=post:=funext hpost
 obtain⟨fid,fst,cap,e,hc,hs⟩:=hf S a hF x y R hR
 have hr:(execOp a.eval ⟨some ac,.call ⟨.value fo,xs.toArray,ats⟩,ty,pos,after,g⟩).run E.P w= .ok (.enter fid (fst++(xs.map a.eval).toArray++cap)) w:=by
  simp [execOp,resolve,e,Deferred.ofValue,invoke,fA hc]
 refine⟨fun c h=>(by cases h),?_⟩
 rw [hr]
 exact(hs i w S _ (SH.le_refl _) hsat (A.tys hF) (kM ho).1.weak).mono fun en w' ⟨j,v,S',he,hv,H,J,h3,h4⟩=>⟨_,he,v,S',j,rfl,H.more fun b ⟨f,hf,D⟩=>⟨f,CO _ hf,D⟩,J,cr.turn ho D H h3 h4,hv⟩
def Gu{t:Ty}{Ob:OI->List OE}{i:OI}(h:dB P f ts O1 (fun _:OI=>t) (fun _=>Ob i)):dB P f ts O1 (fun _:OI=>t) Ob:=fun w S vs hs hv ho=>
 (h w S vs hs hv ho).mono fun _ _ ⟨_,v,S',H,J,h3,h4,h5,h6⟩=>⟨i,v,S',H,J,h3,h4,h5,h6⟩
section
variable{N:Nat}{w0:World}{S0:SH}{fn:Func}{ι:Type}{t:ι->Ty}{O2:ι->List OE}
def fe{rvs:List ResultVar}(hr:fn.results=rvs.toArray)(H:Nat.beq rvs.length 1=false)(h:Gv P ⟨N,[]⟩ G rvs ts)(i:ι)(hO:O=O2 i)(Y:t i=tT ts):
  AT ⟨P,⟨N,[]⟩,EV O1,w0,S0,none⟩ (bodyPost P fn (J6 ⟨P,⟨N,[]⟩,EV O1,w0,S0,none⟩ O1 t O2)) .ret O G:=fun a w S st=>by
 obtain⟨vs,k1,k2,k3⟩:=h.run st.sat st.facts
 have hne: ¬vs.length=1:=by rw [k3];intro e;rw [e]at H;cases H
 refine⟨st.facts.defers,.tuple vs.toArray,?_,Fb st rfl i hO (by rw [Y];exact⟨vs,rfl,k2⟩)⟩
 have e1:(fn.results.mapM (sZ a.tmps)).run P w= .ok vs.toArray w:=by
  rw [hr,List.mapM_toArray,Sem.run_map,k1]
  rfl
 have e3:results fn a.tmps=((fn.results.mapM (sZ a.tmps))>>=fun vs=>pure (if h:vs.size=1 then vs[0]else .tuple vs)):=rfl
 rw [e3,mi,e1]
 simp [Result.andThen,hne]
end
def OP(u:Value)(t:Ty):Ty where
 p:=fun S v=>v=u/\t.p S u
 mono:=fun h ⟨e,k⟩=>⟨e,t.mono h k⟩
def M1{u:Value}{t:Ty}(h:ax N G x (OP u t)):ax N G x t:=fun S a hf=>by
 obtain⟨H,J⟩:=h S a hf
 rw [H];exact J
def St.settleP{k:Nat}{x:α}(h:St E (bx r T b x::O) G a w S)(hk:look G k=some (tV (aj b 0))): ∃S',St E O ((k,OP (aj b 0) (bb r x))::G) a w S' :=by
 obtain⟨S',H⟩:=h.settleB hk
 have hv:a.tmps.getD k undef=aj b 0:=h.facts.at_ k _ hk
 refine⟨S',⟨H.ext,H.sat,H.own,⟨H.facts.size,H.facts.defers,fun j t hj=>?_⟩⟩⟩
 have hp:(bb r x).p S' (a.tmps.getD k undef):=H.facts.at_ k _ (by simp [look])
 by_cases D:Nat.beq k j=true
 ·have e:=kR D
  subst e
  simp only [look,Nat.beq_refl,cond_true,CM]at hj
  subst hj
  exact⟨hv,by rw [<-hv];exact hp⟩
 ·rw [uT]at D
  have:look ((k,bb r x)::G) j=some t:=by
   simp only [look,D,cond_false]at hj ⊢;exact hj
  exact H.facts.at_ j t this
def D7{x:α}(k:Nat)(hk:look G k=some (tV (aj b 0)))(h:RG E ops ay rest O ((k,OP (aj b 0) (bb r x))::G)):RG E ops ay rest (bx r T b x::O) G:=
 fun a w _ st=>let⟨S',st'⟩:=st.settleP hk;h a w S' st'
end
variable{et kt:TypeId}{kv:κ->Value}{os:List (Option Nat×Nat)}
section
variable [DecidableEq κ]{k:κ}{i v:Operand}{dst:Option Nat}{ty:TypeId}
def uN{y:β}(hm:E.P.underlying t=some (.map kt et))(hk:sG E.P kt kv)(A:ax E.N G x (tV (ak b)))(hi:qq E.N G i (kv k))(hv:ax E.N G v (γ y))(h: ∀os',RG E ops ay rest (bj (AJ γ) kv b none os' (gN m k y)::O) G):
  RG E ops ay (⟨none,.insert t x i v,ty,pos,after,none⟩::rest) (bj (AJ γ) kv b none os m::O) G:= .of rfl fun a w S st=>by
 have H:a.eval x=ak b:=A S a st.facts
 have J:a.eval i=kv k:=hi S a st.facts
 have h3:(γ y).p S (a.eval v):=hv S a st.facts
 obtain⟨⟨hp,hfp⟩,hap,hO⟩:=st.own
 obtain⟨hno,hnb,es,clock,e3,e4,hst⟩:=hp
 obtain⟨q,hq,hdk,hinj⟩:=hk
 obtain⟨os1,p1,p2,_⟩:=kF hdk hinj (k:=k) 0 e4
 have hnb1: ∀o∈os1,o.1≠some b:=fun o ho=>by
  rcases p1 o ho with h|h
  ·exact hnb o h
  ·rw [h];exact fun e=>by cases e
 obtain⟨w',os',r,x1,x2,x3,x4⟩:=vl (tD:=AJ γ) (E:=E) (y:=y) (o:=(none,0)) (val:=a.eval v) st.sat hm ⟨q,hq,hdk,hinj⟩ ⟨hno,hnb1,es,clock,e3,p2,hst⟩ ⟨rfl,h3⟩ (fun e=>by cases e) (fun _ _ _ e=>by cases e)
 have hrun:(execOp a.eval ⟨none,.insert t x i v,ty,pos,after,none⟩).run E.P w= .ok .skip w' :=by simp [execOp,H,J,r]
 refine⟨fun c h=>(by cases h),?_⟩
 rw [hrun]
 have hfp' : ∀j,(bj (AJ γ) kv b none os' (gN m k y)).fp j->(bj (AJ γ) kv b none os m).fp j:=fun j hj=>by
  rcases x4 j hj with(h|⟨o,ho,e⟩)|e
  ·exact .inl h
  ·rcases p1 o ho with h|h
   ·exact .inr ⟨o,h,e⟩
   ·rw [h]at e;cases e
  ·cases e
 exact h os' _ _ S ⟨st.ext.step x1 (fun c hc=>hfp c (.inl hc)),x2,⟨⟨x3,fun j hj=>hfp j (hfp' j hj)⟩,fun f hf j hj=>hap f hf j (hfp' j hj),hO.ext x1 fun f hf j hj hjb=>hap f hf j (.inl hjb) hj⟩,st.facts⟩
end

def oO{κ β:Type}(γ:β->Ty)(kv:κ->Value)(S:SH):List MapEntry->List (κ×β)->Prop
 |[],[]=>True
 |e::es,q::m=>e.key=kv q.1/\(γ q.2).p S e.val/\(∀p∈m,p.1≠q.1)/\oO γ kv S es m
 |_,_=>False
def pY{κ β:Type}{γ:β->Ty}{kv:κ->Value}{S S' :SH}(h:lu S S'): ∀{es:List MapEntry} {m:List (κ×β)},oO γ kv S es m->oO γ kv S' es m
 |[],[],_=>trivial
 |_::_,q::_,⟨H,J,h3,h4⟩=>⟨H,(γ q.2).mono h J,h3,pY h h4⟩
def H3{κ β:Type} [DecidableEq κ]{γ:β->Ty}{kv:κ->Value}{w:World}{S:SH}: ∀{es:List MapEntry} {os:List (Option Nat×Nat)} {m:List (κ×β)},qv (AJ γ) kv w S none es os m->oO γ kv S es m
 |[],[],[],_=>trivial
 |_::_,_::_,_::_,⟨H,J,_,h4,h5⟩=>⟨H,by rw [cS (by simp)]at J;exact J.2,h4,H3 h5⟩
def Iw{κ β:Type} [DecidableEq κ]{γ:β->Ty}{kv:κ->Value}{w:World}{S:SH}: ∀{es:List MapEntry} {m:List (κ×β)},oO γ kv S es m->qv (AJ γ) kv w S none es (m.map fun _=>(none,0)) m
 |[],[],_=>trivial
 |_::_,_::_,⟨H,J,h3,h4⟩=>⟨H,by rw [cS (by simp)];exact⟨rfl,J⟩,fun _ _ _ h=>(by cases h),h3,Iw h4⟩
def u4{κ β:Type}(γ:β->Ty)(kv:κ->Value)(m:List (κ×β)):Ty where
 p:=fun S v=> ∃b es clock,v=ak b/\S b=some (.map es clock)/\oO γ kv S es.toList m
 mono:=fun h ⟨b,es,cl,e,H,J⟩=>by
  obtain⟨o',h3,h4⟩:=h b _ H
  have h5:o' = .map es cl:=h4
  subst h5
  exact⟨b,es,cl,e,h3,pY h J⟩
def EE: ∀S v,(u4 γ kv m).p S v->v.oneCell' =true:=fun _ _ ⟨_,_,_,e,_⟩=>by rw [e];rfl
section
variable [DecidableEq κ]{k:κ}{i:Operand}{dst:Option Nat}{ty:TypeId}
def v7{z:β}{zv:Value}(hm:E.P.underlying t=some (.map kt et))(hk:sG E.P kt kv)(hz:ZV E.P et zv)(hzt: ∀S,(γ z).p S zv)(A:ax E.N G x (u4 γ kv m))(hi:qq E.N G i (kv k)):
  bE E O G ⟨dst,.lookup t x i false,ty,pos,after,g⟩ (γ ((gK m k).getD z)):= .of_pure fun a w S hs ho hf=>by
 obtain⟨b,es,clock,H,h3,h4⟩:=A S a hf
 obtain⟨o',h5,h6⟩:=hs b _ h3
 have h7:o' = .map es clock:=h6
 subst h7
 obtain⟨q,hq,hd,hinj⟩:=hk
 have J:a.eval i=kv k:=hi S a hf
 obtain⟨_,_,_,h8⟩:=kF hd hinj (k:=k) 0 (Iw (w:=w) h4)
 rcases h8 with⟨g1,g2⟩|⟨y,o,e,j,g1,g2,g3,g4,g5⟩
 ·refine⟨zv,by simp [execOp,H,J,gp hm hq (hd k) h5 hz g2],by rw [g1];exact hzt S⟩
 ·refine⟨e.val,by simp [execOp,H,J,gp hm hq (hd k) h5 hz g4],by rw [g1];exact g3.2⟩
def St.settleMp{j:Nat}(h:St E (bj (AJ γ) kv b none os m::O) G a w S)(hk:look G j=some (tV (ak b))): ∃S',St E O ((j,u4 γ kv m)::G) a w S' :=by
 obtain⟨⟨hn,_,es,clock,h3,h4,_⟩,_⟩:=h.own.1
 obtain⟨h8,hle,_,_⟩:=sY h (.inl rfl) h3 (pg _) hn
 have hv:a.tmps.getD j undef=ak b:=h.facts.at_ j _ hk
 exact⟨_,h8.cons ⟨b,es,clock,hv,by simp [SH.set],pY hle (H3 h4)⟩⟩
def CH{e:Exit}(j:Nat)(hk:look G j=some (tV (ak b)))(h:AT E ay e O ((j,u4 γ kv m)::G)):AT E ay e (bj (AJ γ) kv b none os m::O) G:=
 fun a w _ st=>let⟨S',st'⟩:=st.settleMp hk;h a w S' st'
end

def GS:Nat:=1000000
def O3{α:Type}(r:Rp α)(x:α)(g:Nat):Ty where
 p:=fun S _=>(bb r x).p S (aj g 0)
 mono:=fun h k=>(bb r x).mono h k
def Ly{x:α}{g:Nat}{vs:List Value}(hs:hY w S)(K:(g,vs)∈glob)(hr: ∀S,r.rc S vs x):(bb r x).p S (aj g 0):=by
 obtain⟨c,T,fr,H,J⟩:=hs.gl _ K
 refine⟨g,0,c,T,fr,rfl,H,?_⟩
 rw [r0,<-r.len (hr S)]
 have h3:c.toList.take vs.length=vs:=J
 rw [h3]
 exact hr S
variable{s:dN}
section
variable{ty:TypeId}
def HN{t:Ty}(hf:cH N S a G)(h: ∀v,t.p S v):cH N S a ((GS,t)::G):=⟨hf.size,hf.defers,fun j u hj=>by
 unfold look at hj
 cases D:Nat.beq GS j with
 |true=>
  rw [D]at hj
  simp only [cond_true,CM]at hj
  rw [<-hj];exact h _
 |false=>
  rw [D]at hj
  simp only [cond_false]at hj
  exact hf.at_ j u hj⟩
def zX{x:α}{v:Nat}{vs:List Value}{t:Ty}(K:(v,vs)∈glob)(hr: ∀S,r.rc S vs x)(h:bE E O ((GS,O3 r x v)::G) o t):bE E O G o t:=fun a w S hs ho hf=>
 h a w S hs ho (HN hf fun _=>Ly hs K hr)
def KE{x:α}{v:Nat}:ax N ((GS,O3 r x v)::G) (.global v) (bb r x):=fun S a hf=>hf.at_ GS (O3 r x v) (by simp [look])
def sj(s:dN)(i:Int):Option Int:=(gI s i).map fun b=>(b.toNat:Int)
def kJ{ix:Operand}{i y:Int}(Y:E.P.underlying t=some .string)(A:ax E.N G x (V rS s))(hi:ax E.N G ix (V (rI k) i))(hy:sj s i=some y):
  bE E O G ⟨dst,.index t x ix,ty,pos,after,g⟩ (V (rI .u8) y):= .of_pure fun a w S _ _ hf=>by
 have H:a.eval x= .string ⟨s.toArray⟩:=mS.1 (A S a hf)
 have J:a.eval ix= .int k i:=dK.1 (hi S a hf)
 unfold sj at hy
 cases D:gI s i with
 |none=>rw [D]at hy;cases hy
 |some b=>
  rw [D]at hy
  obtain⟨g1,g2⟩:=fK D
  have hlt:i.toNat<s.length:=(mO.1 g2).1
  have e:y=(b.toNat:Int):=by simpa using hy.symm
  have hsz:(ByteArray.mk s.toArray).size=s.length:=by simp [ByteArray.size]
  refine⟨.int .u8 y,?_,dK.2 rfl⟩
  have h3:=run_index_string (P:=E.P) w t ⟨s.toArray⟩ k i Y
  rw [dif_pos (by rw [hsz];omega)]at h3
  have h4:(ByteArray.mk s.toArray)[i.toNat]'(by rw [hsz];exact hlt)=b:=by
   have:=(mO.1 g2).2
   show s.toArray[i.toNat]=b
   simpa using this
  simp only [execOp,H,J,mi,h3,m6,xd]
  rw [h4,e]
def vj{u:dN}{hi:Operand}(Y:E.P.underlying t=some .string)(A:ax E.N G x (V rS s))(hh:ax E.N G hi (V (rI k) j))(hy:cB s 0 j=some u):
  bE E O G ⟨dst,.slice t x none (some hi) none,ty,pos,after,g⟩ (V rS u):= .of_pure fun a w S _ _ hf=>by
 have H:a.eval x= .string ⟨s.toArray⟩:=mS.1 (A S a hf)
 have J:a.eval hi= .int k j:=dK.1 (hh S a hf)
 obtain⟨l,m,e1,e2,e3,e4,e5⟩:=ea hy
 have el:l=0:=by omega
 subst el e2 e5
 have hsz:(ByteArray.mk s.toArray).size=s.length:=by simp [ByteArray.size]
 have h3:=run_slice_string_h (P:=E.P) w t ⟨s.toArray⟩ Y k (m:Int) (by omega) (by rw [hsz];omega)
 refine⟨_,by simp only [execOp,H,J,Option.map_none,Option.map_some,mi,run_sliceAt_string w t _ _ _ _ Y,h3,m6,xd];rfl,mS.2 ?_⟩
 congr 1
 apply ByteArray.ext
 simp
end
open Go.MapKept (Stamped)
section
variable [DecidableEq κ]
def tNx(b:Bool):Ty where
 p:=fun _ v=> ∃vs:List Value,v= .tuple (.mk (.bool b::vs))
 mono:=fun _ h=>h
end
section
variable [DecidableEq κ]{r:Nat}{left:List κ}{cur:Option κ}{k:κ}{i v:Operand}{dst:Option Nat}{ty:TypeId}
def AI{f:Bool}(A:ax E.N G x (tNx f)):bE E O G ⟨dst,.extract x 0,ty,pos,after,g⟩ (V rB f):=
 .of_pure fun a w S _ _ hf=>by
  obtain⟨vs,H⟩:=A S a hf
  exact⟨.bool f,by simp [execOp,H,Instr.extract],fZ.2 rfl⟩
end
open Go.RowKit

def Gh(hs:hY w S)(h:Below w.heap.size w w')(hd:w.drawn<=w'.drawn):gj oE w S w' S/\hY w' S:=
 ⟨⟨h.os,h.tape,h.output,hd,h.size,fun k hk _=>h.block k hk,SH.le_refl _,fun _ _ _=>rfl⟩,hs.same fun b o D=>h.block b (hs.lt D)⟩
def Cu{t:dN}(h: ∀w:World,FI w->Calls P f #[.string ⟨s.toArray⟩] w fun e w' =>e= .returned (.string ⟨t.toArray⟩)/\Below w.heap.size w w'):cw P f [V rS s] (V rS t):=fun w S vs hs hv=>by
 match vs,hv with
 |[v],⟨H,_⟩=>
  obtain rfl:=mS.1 H
  refine(Co (h w hs.tab) (fun w' hr=>by cases hr.1)).mono fun e w' ⟨⟨he,D⟩,hd⟩=>?_
  obtain⟨k1,k2⟩:=Gh hs D hd
  exact⟨_,S,he,k1,k2,mS.2 rfl⟩

def m5(xs:List Int):dN:=xs.map fun n=>UInt8.ofNat n.toNat
def xU: ∀(xs:List Int) (r:ByteArray),xs.foldl (fun r n=>r.push (UInt8.ofNat n.toNat)) r=⟨r.data++(m5 xs).toArray⟩
 |[],r=>by simp [m5]
 |x::xs,r=>by
  rw [List.foldl_cons,xU xs]
  simp [m5,ByteArray.push]
def uf{k:IntKind}{S:SH}: ∀{xs:List Int} {cs:List Value},mL (rI k) S cs xs->cs=xs.map (Value.int k)
 |[],cs,h=>by rw [show cs=[]from h];rfl
 |x::xs,cs,⟨a,b,e,H,J⟩=>by
  rw [e,show a=[.int k x]from H,uf J]
  rfl
variable{ps:List MemPlace}
section
variable{ty:TypeId}
def F3{xs:List Int}{st dt:TypeId}(hs:E.P.underlying st=some (.slice e))(he:E.P.underlying e=some (.int .u8))(hd:E.P.underlying dt=some .string)(ti:TI E.P e sz bytes agg z)(hsz:Nat.beq sz 1=true)(A:ax E.N G x (V (dz (rI .u8)) xs)):bE E O G ⟨dst,.convert st dt x,ty,pos,after,g⟩ (V rS (m5 xs)):= .of_pure fun a w S hsat _ hf=>by
 obtain⟨ad,cap,hv,hle,hmax,hsl⟩:=ik.1 (A S a hf)
 refine⟨.string ⟨(m5 xs).toArray⟩,?_,mS.2 rfl⟩
 have key: ∀(ad:Option Addr),zb (rI .u8) S ad xs->(ad=none->xs=[])->(Conv.bytesToString (.slice ad xs.length cap)).run E.P w= .ok (.string ⟨(m5 xs).toArray⟩) w:=fun ad h h0=>by
  cases ad with
  |none=>rw [h0 rfl];rfl
  |some p=>
   have hl:(loadCells p xs.length).run E.P w= .ok (xs.map (Value.int .u8)).toArray w:=by
    rcases h with h|⟨b,off,cc,T,fr,H,J,h3⟩
    ·rw [h];rfl
    ·cases H
     obtain⟨c',h4,h5⟩:=hsat.part J (gX h3)
     have h6:xs.length*(rI .u8).sz=xs.length:=by show xs.length*1=_;omega
     rw [h6]at h3 h5
     have h7:=uf h3
     exact pf h4 (h5.trans h7) (by simp)
   rw [run_bytesToString w p xs.length cap xs hl,xU]
   simp [ByteArray.empty,ByteArray.emptyWithCapacity]
   rfl
 simp [execOp,hv,run_convert_bytes_string w st dt e _ _ _ hs he hd,key ad hsl (fun h=>by
  rcases hsl with H|⟨b,off,cc,T,fr,H,_⟩
  ·exact H
  ·rw [h]at H;cases H)]
def F0(ha:E.P.underlying t=some (.array n e))(ti:TI E.P e sz bytes agg z)(hn:Nat.ble n maxLen=true)(A:ax E.N G x (bb (lC r n) xs)):bE E O G ⟨dst,.slice t x none none none,ty,pos,after,g⟩ (V (dz r) xs):= .of_pure fun a w S _ _ hf=>by
 obtain⟨b,off,c,T,fr,H,J,h3,h4⟩:=A S a hf
 have hz:(⟨b,off,none⟩:Addr).add 0=⟨b,off,none⟩:=by rw [fc,Nat.add_zero]
 refine⟨.slice (some ⟨b,off,none⟩) n n,?_,ik.2 ⟨_,_,by rw [h3],by omega,mP hn,.inr ⟨b,off,c,T,fr,rfl,J,by rw [h3];exact h4⟩⟩⟩
 by_cases h0:n=0
 ·subst h0
  simp [execOp,H,Instr.sliceAt,mK ha,ti.sizeOf,Instr.sliceBounds,Instr.sureAddr]
 ·simp [execOp,H,Instr.sliceAt,mK ha,ti.sizeOf,Instr.sliceBounds,Instr.sureAddr,h0,hz]
def rC{ix:Operand}{i:Int}(Y:E.P.underlying t=some (.array n e))(ti:TI E.P e sz bytes agg z)(hsz:r.sz=sz)(hag:r.agg=agg)(A:ax E.N G x (V (lC r n) xs))(hi:ax E.N G ix (V (rI k) i))(hy:gI xs i=some y):bE E O G ⟨dst,.index t x ix,ty,pos,after,g⟩ (V r y):= .of_pure fun a w S _ _ hf=>by
 obtain⟨cs,H,J,h3⟩:=A S a hf
 have h1' :a.eval x= .agg cs.toArray:=H
 have h4:a.eval ix= .int k i:=dK.1 (hi S a hf)
 obtain⟨g1,g2⟩:=fK hy
 have hlt:i.toNat<xs.length:=(mO.1 g2).1
 have K:=ug h3 g2
 have hin:0<=i/\i<(n:Int):=⟨g1,by omega⟩
 refine⟨r.val ((cs.drop (i.toNat*r.sz)).take r.sz),?_,_,rfl,K⟩
 have hp:(part e cs.toArray (i.toNat*sz)).run E.P w= .ok (r.val ((cs.drop (i.toNat*r.sz)).take r.sz)) w:=by
  subst hsz
  subst hag
  have hl:=r.len K
  unfold part
  simp only [mi,ti.isAgg,m6]
  cases hA:r.agg with
  |true=>
   simp [ti.sizeOf,Rp.val,hA]
  |false=>
   have H:=r.sc hA
   rw [H,xc]at hl ⊢
   cases hd:cs.drop i.toNat with
   |nil=>rw [hd]at hl;simp at hl
   |cons v l=>
    have hv:cs[i.toNat]? =some v:=by
     have:=sd (xs:=cs) (i:=i.toNat) (j:=0)
     rw [hd]at this
     simpa using this.symm
    simp [Rp.val,hA,hv]
 simp [execOp,h1',h4,Instr.index,asIntOf,mK Y,hin,ti.sizeOf,hp]

def nl(s:dN)(i:Nat):Nat×Nat:=Utf8.decode ⟨s.toArray⟩ i
def nF(s:dN):Nat->Nat->List (Int×Int)
 |0,_=>[]
 |f+1,i=>if i<s.length then((i:Int),((nl s i).1:Int))::nF s f (i+(nl s i).2)else []
def BR(s:dN):List (Int×Int):=nF s (s.length+1) 0
def J9(s:dN)(i:Nat):1<=(nl s i).2:=by
 unfold nl Utf8.decode
 simp only []
 repeat' split
 all_goals simp
def yM(r:Nat)(s:dN)(left:List (Int×Int)):OE where
 fp:=fun j=>j=r
 p:=fun w S=>S r=none/\ ∃pos f,w.heap[r]? =some (.stringIter ⟨s.toArray⟩ pos)/\left=nF s f pos/\s.length<pos+f
 here:=by
  rintro w S ⟨_,pos,f,h,_⟩ j rfl
  exact(sL.1 h).1
 kept:=by
  rintro C w w' S S' ⟨h0,pos,f,h,J⟩ k hC
  have hlt:=(sL.1 h).1
  exact⟨by rw [k.old r hlt (hC r rfl)];exact h0,pos,f,by rw [k.heap r hlt (hC r rfl)];exact h,J⟩
def Cw(Y:E.P.underlying t=some .string)(A:ax E.N G x (V rS s))(hd:Nat.blt ac E.N.n=true)(k: ∀r,RG E ops ay rest (yM r s (BR s)::O) ((ac,tV (aj r 0))::G)):RG E ops ay (⟨some ac,.range t x,ty,pos,after,none⟩::rest) O G:= .of rfl fun a w S st=>by
 have hv:a.eval x= .string ⟨s.toArray⟩:=mS.1 (A S a st.facts)
 have hrun:(execOp a.eval ⟨some ac,.range t x,ty,pos,after,none⟩).run E.P w= .ok (.value (aj w.heap.size 0)) (w.alloc (.stringIter ⟨s.toArray⟩ 0)):=by
  simp [execOp,hv,Instr.range,mK Y,aj]
 refine⟨fun c h=>(by cases h),?_⟩
 rw [hrun]
 obtain⟨he,hs',hno⟩:=gr (w:=w) (.stringIter ⟨s.toArray⟩ 0) st.sat
 exact k w.heap.size _ _ S ⟨st.ext.step0 he,hs',nd st.own he ⟨hno,0,s.length+1,yE w _,rfl,by omega⟩ (fun b D=>by rw [show b=_ from D];exact gP _) st.base_le,st.facts.put hd rfl⟩
def D8{r:Nat}{left:List (Int×Int)}(A:ax E.N G x (tV (aj r 0)))(hd:Nat.blt ac E.N.n=true)(h0:left=[]->RG E ops ay rest (yM r s []::O) ((ac,tNx false)::G))(H: ∀e l,left=e::l->RG E ops ay rest (yM r s l::O) ((ac,tT [V rB true,V (rI .i64) e.1,V (rI .i32) e.2])::G)):
  RG E ops ay (⟨some ac,.next x true,ty,pos,after,none⟩::rest) (yM r s left::O) G:= .of rfl fun a w S st=>by
 obtain⟨⟨⟨hno,ps,f,D,hl,hf⟩,hfp⟩,hap,hO⟩:=st.own
 have hv:a.eval x=aj r 0:=A S a st.facts
 have hsz:(ByteArray.mk s.toArray).size=s.length:=by simp [ByteArray.size]
 have K:(getObj r).run E.P w= .ok (.stringIter ⟨s.toArray⟩ ps) w:=by
  simp [getObj,Sem.run,D]
 by_cases hp:ps<s.length
 ·obtain⟨f,rfl⟩: ∃f',f=f' +1:=⟨f-1,by omega⟩
  have hl2:left=((ps:Int),((nl s ps).1:Int))::nF s f (ps+(nl s ps).2):=by rw [hl,nF,fE hp]
  have hset:(setObj r (.stringIter ⟨s.toArray⟩ (ps+(nl s ps).2))).run E.P w= .ok () {w with heap:=w.heap.setIfInBounds r (.stringIter ⟨s.toArray⟩ (ps+(nl s ps).2))}:=by
   simp [setObj,Sem.run,D]
  have hrun:(execOp a.eval ⟨some ac,.next x true,ty,pos,after,none⟩).run E.P w= .ok (.value (.tuple #[.bool true,.int .i64 ps,.int .i32 (nl s ps).1])) {w with heap:=w.heap.setIfInBounds r (.stringIter ⟨s.toArray⟩ (ps+(nl s ps).2))}:=by
   have h3:(Instr.next (aj r 0) true ty).run E.P w= .ok (.tuple #[.bool true,.int .i64 ps,.int .i32 (nl s ps).1]) {w with heap:=w.heap.setIfInBounds r (.stringIter ⟨s.toArray⟩ (ps+(nl s ps).2))}:=by
    unfold Instr.next aj
    simp only [mi,K,m6,hsz,hp,qw]
    rw [show Utf8.decode ⟨s.toArray⟩ ps=nl s ps from rfl]
    simp only [mi,hset,m6]
    rfl
   simp [execOp,hv,h3]
  refine⟨fun c h=>(by cases h),?_⟩
  rw [hrun]
  have hblt:=(sL.1 D).1
  have hx' :gj (fun k=> ∃f∈[yM r s left],f.fp k) w S {w with heap:=w.heap.setIfInBounds r (.stringIter ⟨s.toArray⟩ (ps+(nl s ps).2))} S:=
   ⟨rfl,rfl,rfl,gP _,by simp,fun k _ hk=>by
    have:r≠k:=fun e=>hk ⟨_,List.mem_singleton_self _,e.symm⟩
    simp [this],SH.le_refl _,fun _ _ _=>rfl⟩
  have hs' :hY {w with heap:=w.heap.setIfInBounds r (.stringIter ⟨s.toArray⟩ (ps+(nl s ps).2))} S:=st.sat.same fun k o hk=>by
   have:r≠k:=fun e=>by subst e;rw [hno]at hk;cases hk
   simp [this]
  have hnew:(yM r s (nF s f (ps+(nl s ps).2))).p {w with heap:=w.heap.setIfInBounds r (.stringIter ⟨s.toArray⟩ (ps+(nl s ps).2))} S:=
   ⟨hno,_,f,by simp [hblt],rfl,by have:=J9 s ps;omega⟩
  refine H _ _ hl2 _ _ S ((st.turn (O1:=[yM r s left]) (O2:=[yM r s (nF s f (ps+(nl s ps).2))]) hx' hs' ⟨⟨hnew,fun k hk=> .inl (iM _)⟩,fun _ h=>(by cases h),trivial⟩ (fun k ⟨g,K,hk⟩=>?_)).put hd ?_)
  ·have:g=yM r s (nF s f (ps+(nl s ps).2)):=by simpa using K
   subst this
   exact .inl ⟨_,List.mem_singleton_self _,hk⟩
  ·exact⟨[.bool true,.int .i64 ps,.int .i32 (nl s ps).1],rfl,fZ.2 rfl,dK.2 rfl,dK.2 rfl,trivial⟩
 ·have hl2:left=[]:=by
   rw [hl]
   cases f with
   |zero=>rfl
   |succ f=>rw [nF,cS hp]
  have hrun:(execOp a.eval ⟨some ac,.next x true,ty,pos,after,none⟩).run E.P w= .ok (.value (.tuple #[.bool false])) w:=by
   have h3:(Instr.next (aj r 0) true ty).run E.P w= .ok (.tuple #[.bool false]) w:=by
    unfold Instr.next aj
    simp only [mi,K,m6,hsz,hp,nu]
    rfl
   simp [execOp,hv,h3]
  refine⟨fun c h=>(by cases h),?_⟩
  rw [hrun]
  subst hl2
  exact h0 rfl _ _ S (st.put hd ⟨[],rfl⟩)
def sy{t:Ty}{u:List Ty}{i:Nat}(hu:u[i]? =some t)(A:ax E.N G x (tT u)):bE E O G ⟨dst,.extract x i,ty,pos,after,g⟩ t:=xQ hu A
def Mp{aw:List β->Prop}{Of:List β->List OE}{Gf:io}(h: ∀l,aw l->(∀l2,l2.length<l.length->aw l2->LG E ay c (Of l2) Gf)->LG E ay c (Of l) Gf)(l:List β)(hz:aw l):LG E ay c (Of l) Gf:=by
 have key: ∀(n:Nat) (l:List β),l.length<=n->aw l->LG E ay c (Of l) Gf:=by
  intro n
  induction n with
  |zero=>intro l hn hz;exact h l hz fun l2 J _=>absurd J (by omega)
  |succ n ih=>intro l hn hz;exact h l hz fun l2 J hz2=>ih l2 (by omega) hz2
 exact key l.length l (gP _) hz
end

abbrev NG:=Nat->(Option Nat×Nat)×(Nat->Option Nat×Nat)
inductive NPl where
 |o
 |i (k:Nat)
 |l (k j:Nat)
section
def hd2(q:Nat->Option Nat×Nat)(zs:List (List α)):List Value:=zs.mapIdx fun j z=>M (q j).1 (q j).2 z.length
def hd1(prj:β->List (List α))(g:NG)(x:List β):List Value:=x.mapIdx fun k y=>M (g k).1.1 (g k).1.2 (prj y).length
def nsB(prj:β->List (List α))(l:Option Nat)(g:NG)(x:List β)(h:Option (Nat×Nat)):NPl->Option Nat
 | .o=>l
 | .i k=>(x[k]?).bind fun _=>(g k).1.1
 | .l k j=>if h=some (k,j)then none else((x[k]?).bind fun y=>(prj y)[j]?).bind fun _=>((g k).2 j).1
structure nstP(prj:β->List (List α))(r:Rp α)(T1 T2 T3:TypeId)(l:Option Nat)(cap n:Nat)(g:NG)(x:List β)(h:Option (Nat×Nat))(w:World)(S:SH):Prop where
 len:x.length=n
 out:sm false rV T1 l cap (hd1 prj g x) w S
 inn: ∀k y,x[k]? =some y->sm false rV T2 (g k).1.1 (g k).1.2 (hd2 (g k).2 (prj y)) w S
 lvs: ∀k y j z,x[k]? =some y->(prj y)[j]? =some z->h≠some (k,j)->sm true r T3 ((g k).2 j).1 ((g k).2 j).2 z w S
 inj: ∀s t b,nsB prj l g x h s=some b->nsB prj l g x h t=some b->s=t
variable{prj:β->List (List α)}{T1 T2 T3:TypeId}{l:Option Nat}{g:NG}{x:List β}{h:Option (Nat×Nat)}
end
section
variable{prj:β->List (List α)}{T1 T2 T3:TypeId}{l:Option Nat}{g:NG}{x:List β}{h:Option (Nat×Nat)}
variable{ty:TypeId}{gd:Option (Nat×Bool)}
open Classical in
noncomputable def OQ(w:World)(S:SH)(P:Nat->Prop):SH:=fun b=>if P b then w.heap[b]? else S b
def g0(hs:List (Option Nat×Nat)):NG:=fun k=>(hs.getD k (none,0),fun _=>(none,0))
def tsB(l:Option Nat)(q:Nat->Option Nat×Nat)(zs:List (List α))(h:Option Nat):Option Nat->Option Nat
 |none=>l
 |some j=>if h=some j then none else(zs[j]?).bind fun _=>(q j).1
structure rowP(r:Rp α)(T2 T3:TypeId)(l:Option Nat)(cap n:Nat)(q:Nat->Option Nat×Nat)(zs:List (List α))(h:Option Nat)(w:World)(S:SH):Prop where
 len:zs.length=n
 inn:sm false rV T2 l cap (hd2 q zs) w S
 lvs: ∀j z,zs[j]? =some z->h≠some j->sm true r T3 (q j).1 (q j).2 z w S
 inj: ∀s t b,tsB l q zs h s=some b->tsB l q zs h t=some b->s=t
variable{q:Nat->Option Nat×Nat}{zs:List (List α)}{k:Option Nat}
end

def yU(es:List Bool)(done:Array Bool):List Nat:=(List.range es.length).filter fun k=>(es[k]?).getD false&&done.getD k false
def I7(es:List Bool)(i:Nat)(s:List Nat):List Nat:=(List.range es.length).filter fun k=>Nat.beq k i||s.contains k
def Ml:List Nat->List Nat->Bool
 |[],[]=>true
 |a::s,b::t=>Nat.beq a b&&Ml s t
 |_,_=>false
def DO: ∀{s t:List Nat},Ml s t=true->s=t
 |[],[],_=>rfl
 |a::s,b::t,h=>by
  simp only [Ml,lG]at h
  rw [kR h.1,DO h.2]
 |[],_::_,h=>by cases h
 |_::_,[],h=>by cases h
def GN:List (List Nat×((Nat->OI)->List OE))->List Nat->(Nat->OI)->List OE
 |[],_,_=>[]
 |p::r,s,σ=>bif Ml p.1 s then p.2 σ else GN r s σ
def uk{k:Nat}:k∈yU es done↔es[k]? =some true/\done.getD k false=true:=by
 unfold yU
 rw [List.mem_filter,List.mem_range,lG]
 constructor
 ·rintro⟨H,J,h3⟩
  refine⟨?_,h3⟩
  rw [nw H]at J ⊢
  simpa using J
 ·rintro⟨H,J⟩
  exact⟨(mO.1 H).1,by rw [H];rfl,J⟩
def Gm{i:Nat}(h:es[i]? =some false):yU es (done.setIfInBounds i true)=yU es done:=by
 unfold yU
 refine List.filter_congr fun k hk=>?_
 by_cases hik:i=k
 ·subst hik;rw [h];rfl
 ·rw [wt false hik]
def J8{i:Nat}(h:es[i]? =some true)(hs:i<done.size):yU es (done.setIfInBounds i true)=I7 es i (yU es done):=by
 unfold I7
 conv=>lhs;unfold yU
 refine List.filter_congr fun k hk=>?_
 by_cases hik:i=k
 ·subst hik;simp [h,hs]
 ·rw [wt false hik]
  have D:Nat.beq k i=false:=by
   cases D:Nat.beq k i with
   |false=>rfl
   |true=>exact absurd (kR D).symm hik
  rw [D,qt,y3,GP,uk,lG]
  constructor
  ·rintro⟨H,J⟩
   refine⟨?_,J⟩
   cases he:es[k]? with
   |none=>rw [he]at H;cases H
   |some b=>rw [he]at H;simpa using H
  ·rintro⟨H,J⟩
   exact⟨by rw [H];rfl,J⟩
def y8:List Nat->List (List Nat)
 |[]=>[[]]
 |k::l=>(y8 l).map (k:: ·)++y8 l
def wM(es:List Bool):List Nat:=(List.range es.length).filter fun k=>(es[k]?).getD false
def qZ(p:Nat->Bool): ∀l:List Nat,l.filter p∈y8 l
 |[]=>List.mem_singleton.2 rfl
 |k::l=>by
  unfold y8
  rw [List.mem_append]
  by_cases h:p k=true
  ·rw [List.filter_cons_of_pos h]
   exact .inl (List.mem_map.2 ⟨_,qZ p l,rfl⟩)
  ·rw [List.filter_cons_of_neg h]
   exact .inr (qZ p l)
def H8(es:List Bool)(done:Array Bool):yU es done∈y8 (wM es):=by
 have:yU es done=(wM es).filter fun k=>done.getD k false:=by
  unfold yU wM
  rw [List.filter_filter]
  refine List.filter_congr fun k _=>Bool.and_comm ..
 rw [this]
 exact qZ _ _
def O4(L:List Oper)(es:List Bool)(i:Nat)(s:List Nat):Bool:=
 s.contains i||(wM es).any fun k=>if s.contains k then jh L L.length k i||(wM es).any fun j=> !s.contains j&&jh L L.length k j else jh L L.length i k
def Fy(L:List Oper)(es:List Bool)(i:Nat)(aas:List (List Nat)):Bool:=(y8 (wM es)).all fun s=>O4 L es i s||aas.any fun a=>Ml a s
def CF{α:Type}(p:α->Prop):List α->Prop
 |[]=>True
 |a::l=>p a/\CF p l
def CF.mem{p:α->Prop}: ∀{l:List α},CF p l-> ∀a∈l,p a
 |_::_,⟨h,_⟩,_,.head _=>h
 |_::_,⟨_,h⟩,_,.tail _ hm=>CF.mem h _ hm
abbrev Mu:=List (List Nat×((Nat->OI)->List OE))
def DT(E:En)(G:io)(L:List Oper)(ts:List TS)(Ss:Mu)(es0:List Bool):Nat->List Oper->List Bool->Prop
 |_,[],_=>True
 |i,o::rest,false::es=>(∃(needs:List NS) (t:TS) (aas:List (List Nat)),ts[i]? =some t/\qp G ts needs/\(needs.all fun n=>j8 L o i (n.at fun _=>kT))=true/\di i o=true/\Gn L es0 i t=true/\Fy L es0 i aas=true/\o.dst.isSome=true/\
   CF (fun s=> ∀σ,ba E (GN Ss s σ) L.toArray (qj needs σ) o (t.at σ)) aas)/\DT E G L ts Ss es0 (i+1) rest es
 |i,o::rest,true::es=>(∃(needs:List NS) (t:TS) (aas:List (List Nat×List Nat)),ts[i]? =some t/\qp G ts needs/\(needs.all fun n=>j8 L o i (n.at fun _=>kT))=true/\di i o=true/\Gn L es0 i t=true/\Fy L es0 i (aas.map (·.1))=true/\(aas.all fun p=>Ml (I7 es0 i p.1) p.2)=true/\
   CF (fun p:List Nat×List Nat=> ∀σ,gw E L.toArray (GN Ss p.1 σ) (qj needs σ) o (fun x=>GN Ss p.2 (GM σ i x)) (fun x=>t.at (GM σ i x))) aas)/\DT E G L ts Ss es0 (i+1) rest es
 |_,_::_,[]=>False
def DT.get{ts:List TS}{Ss:Mu}{es0:List Bool}: ∀(r:List Oper) (es:List Bool) (k:Nat),DT E G L ts Ss es0 k r es-> ∀(j:Nat) (o:Oper),r[j]? =some o->
    ∃e,es[j]? =some e/\ ∃(needs:List NS) (t:TS),ts[k+j]? =some t/\qp G ts needs/\(needs.all fun n=>j8 L o (k+j) (n.at fun _=>kT))=true/\di (k+j) o=true/\Gn L es0 (k+j) t=true/\
      (match e with
       |false=>o.dst.isSome=true/\ ∃aas,Fy L es0 (k+j) aas=true/\CF (fun s=> ∀σ,ba E (GN Ss s σ) L.toArray (qj needs σ) o (t.at σ)) aas
       |true=> ∃aas:List (List Nat×List Nat),Fy L es0 (k+j) (aas.map (·.1))=true/\(aas.all fun p=>Ml (I7 es0 (k+j) p.1) p.2)=true/\CF (fun p:List Nat×List Nat=> ∀σ,gw E L.toArray (GN Ss p.1 σ) (qj needs σ) o (fun x=>GN Ss p.2 (GM σ (k+j) x)) (fun x=>t.at (GM σ (k+j) x))) aas):=by
  intro r
  induction r with
  |nil=>intro es k _ j o h;simp at h
  |cons p r ih=>
    intro es k h j o ho
    cases es with
    |nil=>exact h.elim
    |cons e es=>
      cases e with
      |false=>
        obtain⟨⟨needs,t,aas,g1,g2,g3,g4,g5,g6,g7,g8⟩,J⟩:=h
        cases j with
        |zero=>
          simp at ho;subst ho
          exact⟨false,rfl,needs,t,g1,g2,g3,g4,g5,g7,aas,g6,g8⟩
        |succ j=>
          obtain⟨e',g1,g2⟩:=ih es (k+1) J j o (by simpa using ho)
          refine⟨e',by simpa using g1,?_⟩
          rw [show k+1+j=k+(j+1)from by omega]at g2
          exact g2
      |true=>
        obtain⟨⟨needs,t,aas,g1,g2,g3,g4,g5,g6,g7,g8⟩,J⟩:=h
        cases j with
        |zero=>
          simp at ho;subst ho
          exact⟨true,rfl,needs,t,g1,g2,g3,g4,g5,aas,g6,g7,g8⟩
        |succ j=>
          obtain⟨e',g1,g2⟩:=ih es (k+1) J j o (by simpa using ho)
          refine⟨e',by simpa using g1,?_⟩
          rw [show k+1+j=k+(j+1)from by omega]at g2
          exact g2
structure KV(E:En)(G:io)(l:List Oper)(ts:List TS)(Ss:Mu)(es:List Bool)(done:Array Bool)(a:Act)(w:World)(S:SH)(σ:Nat->OI):Prop where
 ext:gj E.B E.w0 E.S0 w S
 sat:hY w S
 own:cr E.base E.B w S (GN Ss (yU es done) σ)
 size:a.tmps.size=E.N.n
 defers:a.defers=E.N.ds
 dsz:done.size=l.length
 down: ∀j o,l[j]? =some o->done.getD j false=true-> ∀e∈o.after,Region.binds .any e=true->done.getD e.on false=true
 old: ∀k t,look G k=some t->(∀j o,l[j]? =some o->done.getD j false=true->o.dst≠some k)->t.p S (a.tmps.getD k undef)
 new: ∀j o ac p,l[j]? =some o->done.getD j false=true->o.dst=some ac->ts[j]? =some p->(p.at σ).p S (a.tmps.getD ac undef)
 deps: ∀j p,done.getD j false=true->ts[j]? =some p-> ∀k∈p.1,done.getD k false=true
section
variable{ts:List TS}{Ss:Mu}
def KV.need(h:KV E G L ts Ss es done a w S σ){i:Nat}(hi:L[i]? =some o)(hun:done.getD i true=false)(hwait: ∀e∈o.after,Region.binds .any e=true->done.getD e.on false=true){needs:List NS}(H:qp G ts needs)(J:(needs.all fun n=>j8 L o i (n.at fun _=>kT))=true):cH E.N S a (qj needs σ):=by
 have hlt:i<done.size:=by rw [h.dsz];exact(mO.1 hi).1
 have hun' :done.getD i false=false:=by
  simp [hlt]at hun ⊢;exact hun
 refine⟨h.size,h.defers,?_⟩
 have key: ∀n∈needs,(n.ty σ).p S (a.tmps.getD n.slot undef):=by
  intro n hn
  have hs:=kU.1 J n hn
  have ho:=H.mem n hn
  unfold j8 NS.at at hs
  unfold Kp at ho
  cases hsrc:n.src with
  |some j=>
   rw [hsrc]at hs ho
   simp only [lG]at hs
   obtain⟨hs1,hs2⟩:=hs
   cases hj:L[j]? with
   |none=>rw [hj]at hs1;cases hs1
   |some p=>
    rw [hj]at hs1
    cases hd:p.dst with
    |none=>simp only [hd]at hs1;cases hs1
    |some ac=>
     simp only [hd]at hs1
     have hd' :=kR hs1
     subst hd'
     have hdone:done.getD j false=true:=by
      unfold vV at hs2
      obtain⟨e,he0,D⟩:=w9.1 hs2
      have he:e∈o.after:=by simpa using he0
      simp only [lG]at D
      have:=hwait e he D.2
      rwa [kR D.1]at this
     have hm:=ho σ
     cases hf:ts[j]? with
     |none=>rw [hf]at hm;simp at hm
     |some f=>
      rw [hf]at hm
      have e:f.at σ=n.ty σ:=by simpa using hm
      rw [<-e]
      exact h.new j p n.slot f hj hdone hd hf
  |none=>
   rw [hsrc]at hs ho
   refine h.old _ _ (ho σ) fun j p hj hdone hd=>?_
   have:=kU.1 hs p (qu hj)
   simp only [hd,Nat.beq_refl,sI,qt]at this
   unfold vV at this
   obtain⟨e,he0,D⟩:=w9.1 this
   have he:e∈p.after:=by simpa using he0
   simp only [lG]at D
   have h3:=h.down j p hj hdone e he D.2
   rw [kR D.1]at h3
   rw [h3]at hun'
   cases hun'
 clear H J
 intro k t hk
 unfold qj at hk
 induction needs with
 |nil=>simp [fB,look]at hk
 |cons n needs ih=>
  simp only [tz]at hk
  unfold fB look at hk
  by_cases D:Nat.beq n.slot k=true
  ·have hb' :Nat.beq (n.at σ).slot k=true:=D
   rw [hb']at hk
   have:=kR D
   subst this
   have h9:some (n.at σ).ty=some t:=by simpa using hk
   have e:n.ty σ=t:=kP h9
   rw [<-e]
   exact key n (oh ..)
  ·rw [uT]at D
   have hb' :Nat.beq (n.at σ).slot k=false:=D
   rw [hb']at hk
   exact ih (fun m hm=>key m (oj _ hm)) hk
def KV.step{σ' :Nat->OI}(h:KV E G L ts Ss es done a w S σ){i:Nat}{p0:TS}{C:Nat->Prop}(hi:L[i]? =some o)(hdN: ∀ac,o.dst=some ac->ac<E.N.n)(hs2: ∀ac,o.dst=some ac-> ∀j p,L[j]? =some p->done.getD j false=true->p.dst=some ac->i=j)(hwait: ∀e∈o.after,Region.binds .any e=true->done.getD e.on false=true)(Y:ts[i]? =some p0)(hun:done.getD i true=false)(hdep: ∀k∈p0.1,k=i\/done.getD k false=true)(hext:gj C w S w' S')(hC: ∀b,C b->E.base<=b\/E.B b)(hsat:hY w' S')(hown:cr E.base E.B w' S' (GN Ss (yU es (done.setIfInBounds i true)) σ'))(hσ: ∀k,k≠i->σ' k=σ k)(hv:(p0.at σ').p S' v):
  KV E G L ts Ss es (done.setIfInBounds i true) (a.put o.dst v) w' S' σ' :=by
 have hlt:i<done.size:=by rw [h.dsz];exact(mO.1 hi).1
 have hset: ∀j,(done.setIfInBounds i true).getD j false=true->j=i\/done.getD j false=true:=fun j hj=>by
  by_cases hij:i=j
  ·exact .inl hij.symm
  ·rw [wt false hij]at hj;exact .inr hj
 have hseti:(done.setIfInBounds i true).getD i false=true:=by simp [hlt]
 have hun' :done.getD i false=false:=by simp [hlt]at hun ⊢;exact hun
 have hput: ∀k,(∀ac,o.dst=some ac->ac≠k)->(a.put o.dst v).tmps.getD k undef=a.tmps.getD k undef:=fun k hk=>by
  cases hd:o.dst with
  |none=>rfl
  |some ac=>
   have hda:ac<a.tmps.size:=by rw [h.size];exact hdN ac hd
   rw [oA hda,cS (hk ac hd)]
 refine⟨h.ext.step hext hC,hsat,hown,?_,?_,by simp [h.dsz],fun j p hj hdone e he D=>?_,fun k u hk hno=>?_,fun j p d' u hj hdone hd' hu=>?_,fun j u hj hu k hk=>?_⟩
 ·cases o.dst with
  |none=>exact h.size
  |some ac=>simp [Act.put,h.size]
 ·cases o.dst with
  |none=>exact h.defers
  |some ac=>exact h.defers
 ·rcases hset j hdone with rfl|hj'
  ·rw [hi]at hj
   have:o=p:=by simpa using hj
   subst this
   exact rZ (hwait e he D)
  ·exact rZ (h.down j p hj hj' e he D)
 ·rw [hput k fun ac hd e=>hno i o hi hseti (by rw [hd,e])]
  exact u.mono hext.keep (h.old k u hk fun j p hj hdone=>hno j p hj (rZ hdone))
 ·by_cases hij:j=i
  ·subst hij
   rw [hi]at hj
   have:o=p:=by simpa using hj
   subst this
   have hda:d' <a.tmps.size:=by rw [h.size];exact hdN d' hd'
   rw [hd',oA hda,fE rfl]
   rw [Y]at hu
   have:p0=u:=by simpa using hu
   subst this
   exact hv
  ·have hj' :=(hset j hdone).resolve_left hij
   rw [hput d' fun ac hd e=>by subst e;exact hij (hs2 ac hd j p hj hj' hd').symm]
   have e1:u.at σ' =u.at σ:=congrArg u.2 (List.map_congr_left fun k hk=>hσ k fun e=>by
     subst e
     rw [h.deps j u hj' hu k hk]at hun';cases hun')
   rw [e1]
   exact Ty.mono _ hext.keep (h.new j p d' u hj hj' hd' hu)
 ·rcases hset j hj with rfl|hj'
  ·rw [Y]at hu
   have:p0=u:=by simpa using hu
   subst this
   rcases hdep k hk with rfl|h'
   ·exact hseti
   ·exact rZ h'
  ·exact rZ (h.deps j u hj' hu k hk)
end
def By{l t:List Oper}{ts:List TS}{Ss:Mu}(hsl:qH E.N.n [] l=true)(hlen:ts.length=l.length)(hesl:es.length=l.length)(hd:DT E G (l++t) ts Ss es 0 l es)(Y:su (l++t) l.length t.length=true)(hQ: ∀a w S σ,St E (GN Ss (wM es) σ) (BY l (Iz ts σ) G) a w S->wpListIn (fw E.r) 0 E.P (l++t).toArray ay t a w):
  ∀(fuel:Nat) (done:Array Bool) (a:Act) (w:World) (S:SH) (σ:Nat->OI),hM done=fuel->(∀j,l.length<=j->done.getD j false=false)->KV E G (l++t) ts Ss es done a w S σ->wpAnyIn (fw E.r) 0 E.P .any (l++t).toArray ay fuel done a w:=by
 have hL1: ∀i o,i<l.length->(l++t)[i]? =some o->l[i]? =some o:=fun i o hi h=>by rwa [yI hi]at h
 have hL2: ∀i o,l[i]? =some o->(l++t)[i]? =some o:=fun i o h=>by rw [yI (mO.1 h).1];exact h
 have htail: ∀m o,l.length<=m->(l++t)[m]? =some o->p4 (l++t) m=true/\di m o=true:=fun m o hm ho=>by
  have hml:m<(l++t).length:=(mO.1 ho).1
  rw [j6]at hml
  unfold su at Y
  have:=kU.1 Y (m-l.length) (by simp;omega)
  rw [show l.length+(m-l.length)=m from by omega,ho]at this
  simp only [lG]at this
  exact⟨this.1,this.2.1⟩
 have hget:=fun i o (hi:l[i]? =some o)=>DT.get l es 0 hd i o hi
 have hedge: ∀i o,(l++t)[i]? =some o->di i o=true:=fun i o hi=>by
  rcases jq i l.length with h|h
  ·obtain⟨_,_,_,_,_,_,_,h,_⟩:=hget i o (hL1 i o h hi)
   simpa using h
  ·exact(htail i o h hi).2
 obtain⟨hs1,hs2⟩:=vZ l [] hsl
 have fin: ∀fuel done a w S σ,hM done=fuel->(∀j,l.length<=j->done.getD j false=false)->KV E G (l++t) ts Ss es done a w S σ->(∀i,i<l.length->done.getD i false=true)->wpAnyIn (fw E.r) 0 E.P .any (l++t).toArray ay fuel done a w:=by
  intro fuel done a w S σ hu hfree h hall
  have hdn:yU es done=wM es:=by
   unfold yU wM
   refine List.filter_congr fun k hk=>?_
   rw [hall k (by rw [<-hesl];exact List.mem_range.1 hk),Bool.and_true]
  have hown:=h.own
  rw [hdn]at hown
  refine sN (n:=l.length) (fun m o hm ho=>(htail m o hm ho).1) hedge t l.length done fuel a w (gP _) (by simp) h.dsz (fun j hj=>⟨fun hjd=>?_,fun hlt=>hall j hlt⟩) hu
   (hQ a w S σ ⟨h.ext,h.sat,hown,h.size,h.defers,fun j u hj=>?_⟩)
  ·rcases jq j l.length with h' |h'
   ·exact h'
   ·rw [hfree j h']at hjd;cases hjd
  ·rcases zw l (Iz ts σ) j u (by unfold Iz;rw [List.length_map];exact hlen) hj with⟨i,o,H,J,h3⟩|⟨H,J⟩
   ·unfold Iz at h3
    rw [y4]at h3
    cases hf:ts[i]? with
    |none=>rw [hf]at h3;simp at h3
    |some f=>
     rw [hf]at h3
     have e:f.at σ=u:=by simpa using h3
     rw [<-e]
     exact h.new i o j f (hL2 i o H) (hall i (mO.1 H).1) J hf
   ·refine h.old j u H fun i o ho hdn=>?_
    rcases jq i l.length with h' |h'
    ·exact J o (qu (hL1 i o h' ho))
    ·rw [hfree i h']at hdn;cases hdn
 have lower: ∀done a w S σ i,(∀j,l.length<=j->done.getD j false=false)->KV E G (l++t) ts Ss es done a w S σ->i∈Region.ready .any (l++t).toArray done->l.length<=i-> ∀j,j<l.length->done.getD j false=true:=by
  intro done a w S σ i hfree h hi hge j hj
  obtain⟨hun,p,hp,hwait⟩:=sH.1 hi
  have hp' :(l++t)[i]? =some p:=by simpa using hp
  have hcov:=(htail i p hge hp').1
  unfold p4 at hcov
  have hre:=kU.1 hcov j (by simp;omega)
  exact ej h.down _ i j (fun q hq e he D=>by
   have:q=p:=by rw [hp']at hq;simpa using hq.symm
   subst this
   exact hwait e he D) hre
 intro fuel
 induction fuel with
 |zero=>
  intro done a w S σ hu hfree h
  exact fin 0 done a w S σ hu hfree h fun i hi=>ow hu (by rw [h.dsz,j6];omega)
 |succ fuel ih=>
  intro done a w S σ hu hfree h
  by_cases hall: ∀i,i<l.length->done.getD i false=true
  ·exact fin _ done a w S σ hu hfree h hall
  have hready0: ∀m i,i<m->i<l.length->Region.ready .any (l++t).toArray done=[]->done.getD i false=true:=by
   intro m
   induction m with
   |zero=>intro i h;omega
   |succ m ihm=>
    intro i him hil hr
    have his:i<done.size:=by rw [h.dsz,j6];omega
    by_cases hdn:done.getD i true=true
    ·rw [<-jW his];exact hdn
    ·exfalso
     obtain⟨o,ho⟩: ∃o,(l++t)[i]? =some o:=⟨l[i],hL2 i _ (nw hil)⟩
     have hmem:i∈Region.ready .any (l++t).toArray done:=by
      rw [sH]
      refine⟨by simpa using hdn,o,by simpa using ho,fun e he D=>?_⟩
      have:=hedge i o ho
      unfold di at this
      have:=kU.1 this e (by simpa using he)
      simp only [D,sI,qt,qx]at this
      exact ihm e.on (by omega) (by omega) hr
     rw [hr]at hmem;cases hmem
  refine⟨fun hr=>absurd (fun i hi=>hready0 (i+1) i (by omega) hi hr) hall,fun i hi=>?_⟩
  have hil:i<l.length:=by
   rcases jq i l.length with h' |h'
   ·exact h'
   ·exact absurd (lower done a w S σ i hfree h hi h') hall
  obtain⟨hun,o,ho,hwait⟩:=sH.1 hi
  have ho' :(l++t)[i]? =some o:=by simpa using ho
  have hol:=hL1 i o hil ho'
  obtain⟨e,he,needs,u,H,J,h3,_,h4,h5⟩:=hget i o hol
  rw [qr]at H h3 h4
  have hF:=h.need ho' hun hwait J h3
  have his:i<done.size:=by rw [h.dsz,j6];omega
  have hun' :done.getD i false=false:=by rw [<-jW his];exact hun
  have hu' :hM (done.setIfInBounds i true)=fuel:=by have:=lI hun;omega
  have huq: ∀ac,o.dst=some ac-> ∀j p,(l++t)[j]? =some p->done.getD j false=true->p.dst=some ac->i=j:=fun ac hdd j p hj hjd hpd=>by
   rcases jq j l.length with h' |h'
   ·exact hs2 i j o p ac hol (hL1 j p h' hj) hdd hpd
   ·rw [hfree j h']at hjd;cases hjd
  have hfree' : ∀j,l.length<=j->(done.setIfInBounds i true).getD j false=false:=fun j hj=>by
   rw [wt false (by omega)];exact hfree j hj
  have hbl:E.base<=w.heap.size:=h.ext.size
  have hwaits: ∀q,(l++t)[i]? =some q-> ∀e∈q.after,Region.binds .any e=true->done.getD e.on false=true:=fun q hq e he D=>by
   have:q=o:=by rw [ho']at hq;simpa using hq.symm
   subst this
   exact hwait e he D
  have hdpp: ∀k∈u.1,k=i\/done.getD k false=true:=fun k hk=>by
   have:=kU.1 h4 k hk
   simp only [lG,xf]at this
   rcases this.2 with D|D
   ·exact .inl (kR D)
   ·exact .inr (ej h.down _ i k hwaits D)
  have hdNN: ∀ac,o.dst=some ac->ac<E.N.n:=fun ac hd=>(hs1 o (qu hol) ac hd).1
  unfold wpOpIn
  rw [ho]
  show if _ then _ else _
  -- just these effects stand
  have hpos:O4 (l++t) es i (yU es done)=false:=by
   rw [Bool.eq_false_iff]
   intro hno
   unfold O4 at hno
   rw [xf]at hno
   rcases hno with hc|hc
   ·have:=(uk.1 (GP.1 hc)).2
    rw [this]at hun';cases hun'
   ·obtain⟨k,hk1,hk2⟩:=w9.1 hc
    have hke:es[k]? =some true:=by
     unfold wM at hk1
     rw [List.mem_filter,List.mem_range]at hk1
     have h7:=hk1.2
     rw [nw hk1.1]at h7 ⊢
     simpa using h7
    by_cases hin:(yU es done).contains k=true
    ·rw [fE hin,xf]at hk2
     have hkd:=(uk.1 (GP.1 hin)).2
     rcases hk2 with D|D
     ·have:=ej h.down _ k i (fun q hq e he D=>h.down k q hq hkd e he D) D
      rw [this]at hun';cases hun'
     ·obtain⟨j,hj1,hj2⟩:=w9.1 D
      rw [lG,Ad]at hj2
      have hje:es[j]? =some true:=by
       unfold wM at hj1
       rw [List.mem_filter,List.mem_range]at hj1
       have h7:=hj1.2
       rw [nw hj1.1]at h7 ⊢
       simpa using h7
      have hjd:=ej h.down _ k j (fun q hq e he D=>h.down k q hq hkd e he D) hj2.2
      have:=GP.2 (uk.2 ⟨hje,hjd⟩)
      rw [hj2.1]at this;cases this
    ·rw [cS hin]at hk2
     have hkd:=ej h.down _ i k hwaits hk2
     exact hin (GP.2 (uk.2 ⟨hke,hkd⟩))
  have hwin: ∀aas:List (List Nat),Fy (l++t) es i aas=true->yU es done∈aas:=by
   intro aas hw
   unfold Fy at hw
   have:=kU.1 hw _ (H8 es done)
   rw [hpos,qt]at this
   obtain⟨b,hb1,hb2⟩:=w9.1 this
   rw [<-DO hb2];exact hb1
  cases e with
  |false=>
   simp only at h5
   obtain⟨hdS,aas,hw,h5⟩:=h5
   rw [qr]at hw
   obtain⟨ac,hdd⟩:=Option.isSome_iff_exists.1 hdS
   have h6:=h5.mem _ (hwin aas hw) σ a w S h.sat h.own hF
   have hdq:=Gm (done:=done) he
   by_cases hw:Region.wanted o (yielded (l++t).toArray a.tmps)=true
   ·rw [fE hw]at h6 ⊢
    refine gT (fun a' w' ⟨v,S',ha,A,hs,hv⟩=>?_) h6
    subst ha
    exact ih _ _ _ S' _ hu' hfree' (h.step ho' hdNN huq hwait H hun hdpp A (fun _ D=>D.elim) hs (by rw [hdq];exact h.own.ext0 A) (fun _ _=>rfl) hv)
   ·rw [cS hw]at h6 ⊢
    exact⟨fun _ _=>trivial,ih _ _ _ S _ hu' hfree' (h.step ho' hdNN huq hwait H hun hdpp (gj.refl oE _ _) (fun _ D=>D.elim) h.sat (by rw [hdq];exact h.own) (fun _ _=>rfl) h6)⟩
  |true=>
   simp only [qr]at h5
   obtain⟨aas,hw,hins,h5⟩:=h5
   obtain⟨p,hp1,hp2⟩:=List.mem_map.1 (hwin _ hw)
   have hp3:=DO (kU.1 hins p hp1)
   have h6:=h5.mem p hp1 σ a w S h.sat (by rw [hp2];exact h.own) hF hbl
   have hdq:yU es (done.setIfInBounds i true)=p.2:=by rw [J8 he his,<-hp2,hp3]
   by_cases hw:Region.wanted o (yielded (l++t).toArray a.tmps)=true
   ·rw [fE hw]at h6 ⊢
    refine gT (fun a' w' ⟨v,S',x,ha,A,hs,hown,hv⟩=>?_) h6
    subst ha
    exact ih _ _ _ S' _ hu' hfree' (h.step ho' hdNN huq hwait H hun hdpp A (fun b ⟨f,hf,D⟩=>(cr.mem h.own f (by rw [<-hp2];exact hf)).2 b D) hs (by rw [hdq];exact hown) (fun k hk=>An σ x hk) hv)
   ·rw [cS hw]at h6 ⊢
    obtain⟨x,hown,hv⟩:=h6
    exact⟨fun _ _=>trivial,ih _ _ _ S _ hu' hfree' (h.step ho' hdNN huq hwait H hun hdpp (gj.refl oE _ _) (fun _ D=>D.elim) h.sat (by rw [hdq];exact hown) (fun k hk=>An σ x hk) hv)⟩
def CE{id:Nat}(m:Nat)(ts:List TS)(es:List Bool)(Ss:Mu)(hO: ∀σ,GN Ss [] σ=O)(hm:E.P.follows .mixedOrders=true)(hsl:qH E.N.n [] (L.take m)=true)(hlen:ts.length=(L.take m).length)(hesl:es.length=(L.take m).length)(Y:su L (L.take m).length (L.drop m).length=true)(hd:DT E G L ts Ss es 0 (L.take m) es)(k: ∀σ:Nat->OI,RG E L.toArray ay (L.drop m) (GN Ss (wM es) σ) (BY (L.take m) (Iz ts σ) G)):CG E ay (.region id L.toArray true) O G:=fun a w S st=>by
 have hL:L=L.take m++L.drop m:=(o8 m L).symm
 generalize L.take m=l at hL hsl hlen hesl Y hd k
 generalize L.drop m=t at hL Y k
 subst hL
 refine wpIn_region_any hm ?_
 obtain⟨he,hs⟩:=uS (w:=w) st.sat
 have hdn0:yU es (Array.replicate (l++t).toArray.size false)=[]:=by
  unfold yU
  refine List.filter_eq_nil_iff.2 fun k hk=>?_
  simp [sK]
  intro _
  split<;>simp
 refine By hsl hlen hesl hd Y (fun a w S σ st=>k σ a w S st) _ _ _ _ S (fun _=>kT) ?_ (fun j _=>?_)
  ⟨st.ext.step0 he,hs,by rw [hdn0,hO];exact st.own.ext0 he,st.facts.size,st.facts.defers,by simp,fun j o hj hdone=>?_,fun k t hk _=>st.facts.at_ k t hk,fun j o ac t hj hdone=>?_,fun j p hdone=>?_⟩
 ·unfold hM;rw [Eo,Ej];simp
 ·simp [sK];split<;>rfl
 ·simp [sK]at hdone
  split at hdone<;>simp at hdone
 ·simp [sK]at hdone
  split at hdone<;>simp at hdone
 ·simp [sK]at hdone
  split at hdone<;>simp at hdone

def cr.perm(h:O.Perm O'):cr base B w S O->cr base B w S O' :=by
 induction h with
 |nil=>exact id
 |cons x p ih=>
  rintro⟨H,J,h3⟩
  exact⟨H,fun f hf=>J f (p.mem_iff.2 hf),ih h3⟩
 |swap x y l=>
  rintro⟨H,J,h3,h4,h5⟩
  refine⟨h3,fun f hf k hk hfk=>?_,H,fun f hf=>J f (oj _ hf),h5⟩
  rcases mJ.1 hf with rfl|hf
  ·exact J x (oh ..) k hfk hk
  ·exact h4 f hf k hk hfk
 |trans _ _ ih1 ih2=>exact fun k=>ih2 (ih1 k)
def oB(O:List OE):List Nat->List OE
 |[]=>[]
 |i::l=>match O[i]? with
  |some e=>e::oB O l
  |none=>oB O l
def ui(O:List OE): ∀a b:List Nat,oB O (a++b)=oB O a++oB O b
 |[],_=>rfl
 |i::a,b=>by
  simp only [Bs,oB]
  split<;>simp [ui O a b]
def Dl{a b:List Nat}(h:a.Perm b):(oB O a).Perm (oB O b):=by
 induction h with
 |nil=>exact .nil
 |cons x p ih=>
  simp only [oB]
  split
  ·exact .cons _ ih
  ·exact ih
 |swap x y l=>
  simp only [oB]
  cases A:O[x]? <;>cases hy:O[y]? <;>simp<;>exact .swap ..
 |trans _ _ ih1 ih2=>exact ih1.trans ih2
def BX(O:List OE):oB O (List.range O.length)=O:=by
 have key: ∀n,n<=O.length->oB O (List.range n)=O.take n:=by
  intro n
  induction n with
  |zero=>intro _;rfl
  |succ n ih=>
   intro h
   rw [List.range_succ,ui,ih (by omega)]
   simp only [oB]
   rw [nw (by omega),GT (by omega)]
 rw [key _ (gP _),Br]
def cr.pick(l:List Nat)(hl:l.isPerm (List.range O.length)=true)(h:cr base B w S O):cr base B w S (oB O l):=
 h.perm (by
  have:=Dl (O:=O) (List.isPerm_iff.1 hl)
  rw [BX]at this
  exact this.symm)

section
section
variable{ty:TypeId}
end
def ne{ty:TypeId}{l:Option Nat}{o:Nat}(hm:gL mm r U l cap xs∈O)(hy:gI xs j=some y)(hp:ax E.N G p (tV (cv l o))):
  bE E O G ⟨dst,.nilCheck p,ty,pos,after,g⟩ (tV (cv l o)):=
 .of_pure fun a w S _ ho hF=>by
  have H:a.eval p=cv l o:=hp S a hF
  obtain⟨_,hy'⟩:=fK hy
  obtain⟨b,cur,rfl,_⟩:=k8 (ho.mem _ hm).1 hy'
  exact⟨cv (some b) o,by simp [execOp,H,cv,aj],rfl⟩
end
open Go.ChangeShapes Go.WideShapes Go.ChangeAt

variable{h1:Type}{W:World}{enc:TypeId×Value->h1}
section
def yS(W:World):SH:=fun b=>W.heap[b]?
def Lp(W:World)(K: ∀p∈glob,∃c T fr,W.heap[p.1]? =some (.cells c T fr)/\c.toList.take p.2.length=p.2)(Y: ∀w' :World,(∀(b:Nat) (o:Obj),W.heap[b]? =some o-> ∃o',w'.heap[b]? =some o' /\yD o o')->FI w'):hY W (yS W):=⟨fun _ o h=>⟨o,h,pg o⟩,K,Y⟩
def pw(enc:TypeId×Value->h1)(P:Program)(W:World){α:Type}(t:TypeId)(r:Rp α):Prop:=
 P.cellsOf t=r.sz/\ ∀fuel cs x,DataW.trod enc P W 0 (fun _=>true) true fuel t cs=some x-> ∃y,r.rc (yS W) cs y
def G0(h:P.underlying t=some .bool)(hc:P.cellsOf t=1):pw enc P W t rB:=⟨hc,fun fuel cs x A=>by
 cases fuel with
 |zero=>simp [DataW.trod]at A
 |succ n=>
  unfold DataW.trod at A
  rw [h]at A
  split at A
  all_goals try (injections;done)
  ·exact⟨_,rfl⟩⟩
def pi{α β:Type}{f:α->Option β}: ∀{l:List α} {r:List β},l.mapM f=some r->r.length=l.length/\ ∀(i:Nat) (x:α),l[i]? =some x-> ∃y,r[i]? =some y/\f x=some y
 |[],r,h=>by
  simp at h
  subst h
  exact⟨rfl,fun i x A=>by simp at A⟩
 |a::l,r,h=>by
  rw [List.mapM_cons]at h
  cases hf:f a with
  |none=>rw [hf]at h;simp at h
  |some b=>
   rw [hf]at h
   cases hm:l.mapM f with
   |none=>rw [hm]at h;simp at h
   |some r' =>
    rw [hm]at h
    simp at h
    subst h
    obtain⟨H,J⟩:=pi hm
    refine⟨by simp [H],fun i x A=>?_⟩
    cases i with
    |zero=>simp at A;subst A;exact⟨b,rfl,hf⟩
    |succ i=>exact J i x (by simpa using A)
def vG{a:Addr}(h:W.cell? a=some v):a.spot=none/\ ∃c E fr,W.heap[a.block]? =some (.cells c E fr)/\c[a.off]? =some v:=by
 unfold World.cell? at h
 cases ho:W.heap[a.block]? with
 |none=>rw [ho]at h;cases h
 |some o=>
  rw [ho]at h
  cases o with
  |cells c E fr=>
   simp only at h
   by_cases hs:a.spot.isSome=true
   ·rw [fE hs]at h;cases h
   ·rw [cS hs]at h
    exact⟨by cases hq:a.spot with
     |none=>rfl
     |some s=>rw [hq]at hs;simp at hs,c,E,fr,rfl,h⟩
  |_=>simp at h
def zU(a:Addr):a.add 0=a:=by unfold Addr.add;rfl
def D4(h:W.cells? 0 ⟨b,off,none⟩ n=some cs)(hn:0<n): ∃c E fr,W.heap[b]? =some (.cells c E fr)/\cs=(c.toList.drop off).take n:=by
 unfold World.cells? at h
 rw [fE (iM _)]at h
 obtain⟨H,J⟩:=pi h
 obtain⟨v,_,hv⟩:=J 0 0 (by simp [hn])
 obtain⟨_,c,E,fr,h3,h4⟩:=vG hv
 refine⟨c,E,fr,by simpa [Addr.add] using h3,?_⟩
 apply Bt
 intro i
 have hl:cs.length=n:=by simpa using H
 by_cases hi:i<n
 ·obtain⟨v,h5,h6⟩:=J i i (by simp [hi])
  obtain⟨_,c',E',fr',h7,h8⟩:=vG h6
  rw [fc]at h7 h8
  have h7' :W.heap[b]? =some (.cells c' E' fr'):=h7
  have h3' :W.heap[b]? =some (.cells c E fr):=by simpa [Addr.add] using h3
  rw [h3']at h7'
  injection h7' with h7'
  injection h7' with e1
  subst e1
  rw [h5,uV hi,sd]
  simpa using h8.symm
 ·rw [Ft (by omega),Ft (by simp;omega)]
def FD{q:Rp α}{len:Nat}{a:Addr}{x:DataW h1×List MemPlace}(h0' :0<q.sz)(hq:pw enc P W e q)(A:(let elemAt (i:Nat):Option (DataW h1×List MemPlace):=(W.cells? 0 (a.add (i*P.cellsOf e)) (P.cellsOf e)).bind (DataW.trod enc P W 0 (fun _=>true) true n e)
   if 0<=a.block/\len<=cap/\cap<=maxLen then
    ((List.range len).mapM elemAt).bind fun elems=>
     (if(fun _=>true) a.block then(List.range (cap-len)).mapM fun j=>elemAt (len+j)else some []).map fun rest=>
      (DataW.slice (elems.map (·.1)) (rest.map (·.1)),MemPlace.row a ((elems.length+rest.length)*P.cellsOf e)++(elems++rest).flatMap (·.2))
   else none)=some x): ∃y,(dz q).rc (yS W) [.slice (some a) len cap] y:=by
 simp only at A
 split at A
 ·rename_i hcond
  obtain⟨_,hle,hmax⟩:=hcond
  cases hm:(List.range len).mapM (fun i=>(W.cells? 0 (a.add (i*P.cellsOf e)) (P.cellsOf e)).bind (DataW.trod enc P W 0 (fun _=>true) true n e))with
  |none=>rw [hm]at A;simp at A
  |some elems=>
   obtain⟨hm1,hm2⟩:=pi hm
   rw [hq.1]at hm2
   by_cases hl0:len=0
   ·subst hl0;exact⟨[],some a,cap,rfl,iM _,hmax,.inl rfl⟩
   have hsp0:a.spot=none:=by
    obtain⟨z,_,hz⟩:=hm2 0 0 (by rw [List.getElem?_range (by omega)])
    rw [Nat.zero_mul,zU]at hz
    cases hcs:W.cells? 0 a q.sz with
    |none=>rw [hcs]at hz;simp at hz
    |some cs1=>
     unfold World.cells? at hcs
     rw [fE (iM _)]at hcs
     obtain⟨_,g2⟩:=pi hcs
     obtain⟨v,_,hv⟩:=g2 0 0 (by simp [h0'])
     rw [zU]at hv
     exact(vG hv).1
   have hcell: ∀i,i<len-> ∃c E fr,a.spot=none/\W.heap[a.block]? =some (.cells c E fr)/\ ∃y,q.rc (yS W) ((c.toList.drop (a.off+i*q.sz)).take q.sz) y:=by
    intro i hi
    obtain⟨z,_,hz⟩:=hm2 i i (by simp [hi])
    cases hcs:W.cells? 0 (a.add (i*q.sz)) q.sz with
    |none=>rw [hcs]at hz;simp at hz
    |some cs1=>
     rw [hcs]at hz
     have hsp:a.spot=none:=hsp0
     obtain⟨ab,ao,az⟩:=a
     simp only at hsp
     subst hsp
     rw [fc]at hcs
     obtain⟨c,E,fr,g1,g2⟩:=D4 hcs h0'
     obtain⟨y,hy⟩:=hq.2 n cs1 z hz
     exact⟨c,E,fr,rfl,g1,y,by rw [<-g2];exact hy⟩
   obtain⟨c,E,fr,hsp,D,_⟩:=hcell 0 (by omega)
   have key: ∀m,m<=len-> ∃ys:List α,ys.length=m/\mL q (yS W) ((c.toList.drop a.off).take (m*q.sz)) ys:=by
    intro m
    induction m with
    |zero=>intro _;exact⟨[],rfl,by simp [mL]⟩
    |succ m ih=>
     intro hm'
     obtain⟨ys,hy1,hy2⟩:=ih (by omega)
     obtain⟨c',E',fr',_,hb',y,hy⟩:=hcell m (by omega)
     rw [D]at hb'
     injection hb' with hb'
     injection hb' with e1
     subst e1
     refine⟨ys++[y],by simp [hy1],?_⟩
     have hsplit:(c.toList.drop a.off).take ((m+1)*q.sz)=(c.toList.drop a.off).take (m*q.sz)++(c.toList.drop (a.off+m*q.sz)).take q.sz:=by
      rw [rY,Nat.one_mul,List.take_add,tA]
     rw [hsplit]
     exact nI hy2 (Dk.2 hy)
   obtain⟨ys,hy1,hy2⟩:=key len (gP _)
   obtain⟨ab,ao,az⟩:=a
   simp only at hsp
   subst hsp
   exact⟨ys,some ⟨ab,ao,none⟩,cap,by rw [hy1],by omega,hmax,.inr ⟨ab,ao,c,E,fr,rfl,D,by rw [hy1];exact hy2⟩⟩
 ·cases A
def jQ{q:Rp α}(h:P.underlying t=some (.slice e))(hc:P.cellsOf t=1)(h0:Nat.blt 0 q.sz=true)(hq:pw enc P W e q):pw enc P W t (dz q):=⟨hc,fun fuel cs x A=>by
 have h0' :0<q.sz:=by simpa [qx] using h0
 cases fuel with
 |zero=>simp [DataW.trod]at A
 |succ n=>
  unfold DataW.trod at A
  rw [h]at A
  split at A
  all_goals try (injections;done)
  ·exact⟨[],none,0,rfl,gP _,iM _,.inl rfl⟩
  ·rename_i e' a len cap heq
   injection heq with e1
   injection e1 with e1
   subst e1
   exact FD h0' hq A⟩
def Kq(enc:TypeId×Value->h1)(P:Program)(W:World){α:Type}(off:Nat)(l:List (TypeId×Nat))(r:Rp α):Prop:=
 ∀(fuel:Nat) (cs:List Value),cs.length=off+r.sz->(∀f∈l,∃x,DataW.trod enc P W 0 (fun _=>true) true fuel f.1 ((cs.drop f.2).take (P.cellsOf f.1))=some x)-> ∃y,r.rc (yS W) (cs.drop off) y
def iD{t:Nat}(h:pw enc P W t r):Kq enc P W off [(t,off)] r:=fun fuel cs hl A=>by
 obtain⟨x,A⟩:=A _ (List.mem_singleton_self _)
 simp only at A
 rw [h.1,Ae (by simp;omega)]at A
 exact h.2 _ _ _ A
def cT{p:Rp α}{t off' :Nat}{l:List (TypeId×Nat)}(h:pw enc P W t p)(ho:off' =off+p.sz)(hr:Kq enc P W off' l q):Kq enc P W off ((t,off)::l) (br p q):=fun fuel cs hl A=>by
 subst ho
 obtain⟨x,hx1⟩:=A _ (oh ..)
 simp only at hx1
 rw [h.1]at hx1
 obtain⟨y,hy⟩:=h.2 _ _ _ hx1
 obtain⟨z,hz⟩:=hr fuel cs (by rw [hl];show off+(p.sz+q.sz)=_;omega) fun f hf=>A f (oj _ hf)
 exact⟨(y,z),_,_,by rw [<-tA];exact(o8 _ _).symm,hy,hz⟩
def fv{l:List (TypeId×Nat)}{p:Rp α}{f:β->α}(Y:(P.underlying t).map (fun ac=>match ac with| .struct l=>(true,l.toList.map fun f=>(f.type,f.offset))|_=>(false,[]))=some (true,l))(hc:P.cellsOf t=p.sz)(hf: ∀y,∃x,f x=y)(hl:Kq enc P W 0 l p):pw enc P W t (f7 p f):=⟨hc,fun fuel cs x A=>by
 obtain⟨fs,H,J⟩: ∃fs,P.underlying t=some (.struct fs)/\fs.toList.map (fun f=>(f.type,f.offset))=l:=by
  cases hu:P.underlying t with
  |none=>rw [hu]at Y;cases Y
  |some ac=>
   rw [hu]at Y
   cases ac<;>simp at Y
   exact⟨_,rfl,Y⟩
 cases fuel with
 |zero=>simp [DataW.trod]at A
 |succ n=>
  unfold DataW.trod at A
  rw [H]at A
  change (if cs.length=P.cellsOf t then(fs.toList.mapM fun f=>DataW.trod enc P W 0 (fun _=>true) true n f.type ((cs.drop f.offset).take (P.cellsOf f.type))).map (fun xs=>(DataW.agg (xs.map (·.1)),xs.flatMap (·.2)))else none)=some x at A
  split at A
  ·rename_i hlen
   cases hm:fs.toList.mapM (fun f=>DataW.trod enc P W 0 (fun _=>true) true n f.type ((cs.drop f.offset).take (P.cellsOf f.type)))with
   |none=>rw [hm]at A;simp at A
   |some r=>
    obtain⟨_,hm2⟩:=pi hm
    obtain⟨y,hy⟩:=hl n cs (by rw [hlen,hc];omega) (fun g K=>by
     rw [<-J,List.mem_map]at K
     obtain⟨f0,hf0,rfl⟩:=K
     obtain⟨i,hi⟩:=List.getElem?_of_mem hf0
     obtain⟨z,_,hz⟩:=hm2 i f0 hi
     exact⟨z,hz⟩)
    obtain⟨x',hx'⟩:=hf y
    refine⟨x',?_⟩
    show p.rc _ cs (f x')
    rw [hx']
    simpa using hy
  ·cases A⟩
def BT(h:pw enc P W t r)(hag:r.agg=false){ac:DataW h1}(hv:DataW.Trod enc P W 0 (fun _=>true) true t v ac ps)(hc:v.cells= #[v]): ∃y,(V r y).p (yS W) v:=by
 obtain⟨fuel,A⟩:=hv
 rw [hc]at A
 obtain⟨y,hy⟩:=h.2 _ _ _ A
 exact⟨y,_,by unfold Rp.val;rw [hag];rfl,hy⟩

def Cm(Y:P.underlying t=some (.slice e))(hv:Value.okWide P W .any base t v):v.cells= #[v]:=by
 cases v<;>first|rfl|(simp [Value.okWide,Y,Cell.okWide,Cell.ok]at hv)
def Bf{W' :World}(h:gj oE W S W' S'):Below W.heap.size W W' :=⟨h.os,h.tape,h.output,h.size,fun k hk=>h.heap k hk (fun h=>h)⟩
def sr(hl:laidOutB P=true){W W' :World}(D:Below W.heap.size W W'){sp:Nat->Bool}: ∀{ts:List TypeId} {vs:List Value} {ds:List (DataW h1)} {ps:List MemPlace},(∀t∈ts,P.readableRec t=true/\t<P.types.size)->
  DataW.TrodAll enc P W 0 (fun _=>true) true ts vs ds ps->(∀p∈ps,p.block<W.heap.size)->(∀p∈ps,sp p.block=true)->DataW.TrodAll enc P W' 0 sp true ts vs ds ps
 |[],[],[],_,_,h,_,_=>h
 |t::ts,v::vs,ac::ds,_,hr,⟨p,q,H,J,e⟩,hlt,hsp=>by
  subst e
  have Y:=hr t (oh ..)
  exact⟨p,q,WideElems.Trod_stays hl Y.1 Y.2 H (fun x A=>D.same (hlt x (CO _ A))) (fun x A=>hsp x (CO _ A)),
   sr hl D (fun t Y=>hr t (oj _ Y)) J (fun x A=>hlt x (List.mem_append_right _ A)) (fun x A=>hsp x (List.mem_append_right _ A)),rfl⟩
def Ht{f:Func}{s:ChangeSpec}{apart fresh handsOn again:Bool}{W' :World}{args:Array Value}{ds gs:List (DataW h1)}{before:List MemPlace}{tb:TypeId}(hl:laidOutB P=true)(hr: ∀t∈f.params.toList,P.readableRec t=true/\t<P.types.size)(hvs:s.vars=[])(hres:f.resultTypes= #[tb])(htb:P.underlying tb=some .bool)(hW:DataW.Whole enc P f.params.toList s.vars apart W args.toList ds gs before)(hs:s.fn h1 (ds++gs)={results:=[.lit (.bool true)],args:=ds})(D:Below W.heap.size W W'):
  s.post enc P f apart fresh handsOn again W args (.bool true) W' :=by
 have hW0:=hW
 have hlt:=hW.lt
 obtain⟨pa,pv,hA,hV,rfl,hz,hn⟩:=hW
 rw [hvs]at hV
 have hpv:pv=[]:=by
  cases gs with
  |nil=>exact hV
  |cons g gs=>exact hV.elim
 subst hpv
 have hlt' : ∀p∈pa,p.block<W.heap.size:=fun p hp=>hlt p (by simpa using hp)
 have hargs: ∀sp:Nat->Bool,(∀p∈pa,sp p.block=true)->DataW.TrodAll enc P W' 0 sp true f.params.toList args.toList ds pa:=fun sp hsp=>sr hl D hr hA hlt' hsp
 have hresT: ∀(b:Nat) (sp:Nat->Bool) (hd:Bool),DataW.TrodAll enc P W' b sp hd f.resultTypes.toList ((Value.bool true).resultList f.resultTypes.size) [.lit (.bool true)] []:=fun b sp hd=>by
  rw [hres]
  exact⟨[],[],⟨1,by simp [DataW.trod,htb,Value.cells]⟩,rfl,rfl⟩
 have hvT: ∀sp:Nat->Bool,DataW.TrodVars enc P W' sp s.vars (s.fn h1 (ds++gs)).vars []:=fun sp=>by
  rw [hvs,hs];rfl
 have hargs' : ∀sp:Nat->Bool,(∀p∈pa,sp p.block=true)->DataW.TrodAll enc P W' 0 sp true f.params.toList args.toList (s.fn h1 (ds++gs)).args pa:=fun sp hsp=>by rw [hs];exact hargs sp hsp
 have hres' : ∀(b:Nat) (sp:Nat->Bool) (hd:Bool),DataW.TrodAll enc P W' b sp hd f.resultTypes.toList ((Value.bool true).resultList f.resultTypes.size) (s.fn h1 (ds++gs)).results []:=fun b sp hd=>by rw [hs];exact hresT b sp hd
 have hold: ∀p∈pa,(fun b=>decide (b<W.heap.size)) p.block=true:=fun p hp=>by simpa using hlt' p hp
 refine⟨ds,gs,pa++[],[],pa,[],hW0,hres' _ _ _,hargs' _ hold,hvT _,World.keptBut_mono (fun p hp=>⟨hp,?_⟩) (D.frame _),fun _=>?_⟩
 ·right;simpa using hp
 ·refine⟨?_,_,_,([]++pa)++[],⟨[]++pa,[],trodAll_append (hargs' _ (fun _ _=>rfl)) (hres' _ _ _),hvT _,rfl,?_,?_⟩,?_⟩
  ·intro j t r H J
   rw [hres]at H J
   cases j with
   |zero=>
    simp [Value.resultList]at H J
    subst H J
    simp [Value.okWide,htb,Cell.okWide,Cell.ok]
   |succ j=>simp at H
  ·intro b off hp
   have hp' :MemPlace.cell b off∈pa:=by simpa using hp
   have:=hlt' _ hp'
   rw [D.frozen (p:=⟨b,off,none⟩) this]
   exact hz b off (by simpa using hp')
  ·intro ha
   have:=hn ha
   simpa using this
  ·intro p hp _
   simpa using hp
end

section
def qP{α:Type}(r:Rp α)(ok:α->Prop):Rp α where
 sz:=r.sz
 agg:=r.agg
 rc:=fun S cs x=>r.rc S cs x/\ok x
 mono:=fun h k=>⟨r.mono h k.1,k.2⟩
 len:=fun k=>r.len k.1
 one:=fun k=>r.one k.1
 sc:=r.sc
def wJ(k:IntKind)(n:Int):Prop:=k.min<=n/\n<=k.max
def wZ(s:dN):Prop:=s.length<=maxLen
def ID{α:Type}(ok:α->Prop)(xs:List α):Prop:=xs.length<=maxLen/\ ∀x∈xs,ok x
def IC{α:Type}(_:α):Prop:=True
def xm(h:P.underlying t=some (.int k))(hc:P.cellsOf t=1):pw enc P W t (qP (rI k) (wJ k)):=⟨hc,fun fuel cs x A=>by
 cases fuel with
 |zero=>simp [DataW.trod]at A
 |succ n=>
  unfold DataW.trod at A
  rw [h]at A
  split at A
  all_goals try (injections;done)
  ·rename_i k1 k2 m heq
   injection heq with e
   injection e with e
   subst e
   split at A
   ·rename_i J
    obtain⟨rfl,h3⟩:=J
    simp only [Lit.wf,lG,py]at h3
    exact⟨m,rfl,h3⟩
   ·cases A⟩
def GZ(h:P.underlying t=some .string)(hc:P.cellsOf t=1):pw enc P W t (qP rS wZ):=⟨hc,fun fuel cs x A=>by
 cases fuel with
 |zero=>simp [DataW.trod]at A
 |succ n=>
  unfold DataW.trod at A
  rw [h]at A
  split at A
  all_goals try (injections;done)
  ·rename_i s heq
   split at A
   ·rename_i J;exact⟨s.data.toList,rfl,(show s.data.toList.length<=maxLen from(show s.size=s.data.toList.length from rfl)▸J)⟩
   ·cases A⟩
def FE(h:P.underlying t=some .bool)(hc:P.cellsOf t=1):pw enc P W t (qP rB IC):=
 ⟨hc,fun fuel cs x A=>by obtain⟨y,hy⟩:=(G0 (enc:=enc) (W:=W) h hc).2 fuel cs x A;exact⟨y,hy,trivial⟩⟩
def w5{α:Type}(r' r:Rp α)(ok:α->Prop):Prop:=r'.sz=r.sz/\r'.agg=r.agg/\ ∀S cs x,r'.rc S cs x->r.rc S cs x/\ok x
def fI:w5 (qP r ok) r ok:=⟨rfl,rfl,fun _ _ _ h=>h⟩
def EA{α:Type}{r' r:Rp α}{ok:α->Prop}(h:w5 r' r ok){S:SH}: ∀{xs:List α} {cs:List Value},mL r' S cs xs->mL r S cs xs/\ ∀x∈xs,ok x
 |[],_,k=>⟨k,fun x A=>by cases A⟩
 |x::xs,_,⟨a,b,e,H,J⟩=>by
  obtain⟨g1,g2⟩:=h.2.2 _ _ _ H
  obtain⟨g3,g4⟩:=EA h J
  exact⟨⟨a,b,e,g1,g3⟩,fun y hy=>by
   rcases mJ.1 hy with rfl|hy
   ·exact g2
   ·exact g4 y hy⟩
def oY(h:w5 r' r ok):w5 (dz r') (dz r) (ID ok):=⟨rfl,rfl,fun S cs xs ⟨a,cap,e,H,J,h3⟩=>by
 rcases h3 with h3|⟨b,off,c,E,fr,e1,e2,e3⟩
 ·exact⟨⟨a,cap,e,H,J,.inl h3⟩,by omega,fun x A=>by rw [h3]at A;cases A⟩
 ·rw [h.1]at e3
  obtain⟨g1,g2⟩:=EA h e3
  exact⟨⟨a,cap,e,H,J,.inr ⟨b,off,c,E,fr,e1,e2,g1⟩⟩,by omega,g2⟩⟩
def dy{p' p:Rp α}{q' :Rp β}{f:α->Prop}{g:β->Prop}(h:w5 p' p f)(k:w5 q' q g):w5 (br p' q') (br p q) (fun x=>f x.1/\g x.2):=
 ⟨by show p'.sz+q'.sz=p.sz+q.sz;rw [h.1,k.1],rfl,fun S cs x ⟨a,b,e,H,J⟩=>⟨⟨a,b,e,(h.2.2 _ _ _ H).1,(k.2.2 _ _ _ J).1⟩,(h.2.2 _ _ _ H).2,(k.2.2 _ _ _ J).2⟩⟩
def jR{p' p:Rp α}{f:β->α}(h:w5 p' p ok):w5 (f7 p' f) (f7 p f) (fun x=>ok (f x)):=
 ⟨h.1,rfl,fun S cs x k=>h.2.2 _ _ _ k⟩
def Kj(h:pw enc P W t r')(hr:w5 r' r ok)(hag:r.agg=false){ac:DataW h1}(hv:DataW.Trod enc P W 0 (fun _=>true) true t v ac ps)(hc:v.cells= #[v]): ∃y,(V r y).p (yS W) v/\ok y:=by
 obtain⟨y,cs,e,hy⟩:=BT h (by rw [hr.2.1];exact hag) hv hc
 obtain⟨g1,g2⟩:=hr.2.2 _ _ _ hy
 exact⟨y,⟨cs,by rw [e];unfold Rp.val;rw [hr.2.1],g1⟩,g2⟩
def Fi(h:pw enc P W t r')(hr:w5 r' r ok)(hag:r.agg=true){ac:DataW h1}(hv:DataW.Trod enc P W 0 (fun _=>true) true t v ac ps)(hc:v= .agg v.cells): ∃y,(V r y).p (yS W) v/\ok y:=by
 obtain⟨fuel,A⟩:=hv
 obtain⟨y,hy⟩:=h.2 _ _ _ A
 obtain⟨g1,g2⟩:=hr.2.2 _ _ _ hy
 exact⟨y,⟨_,by unfold Rp.val;rw [hag,fE rfl];exact hc,g1⟩,g2⟩
def uJ{l:Array Field}(Y:P.underlying t=some (.struct l))(hv:Value.okWide P W .any base t v):v= .agg v.cells:=by
 unfold Value.okWide at hv
 rw [Y]at hv
 obtain⟨cs,e,_⟩:=hv
 rw [e]
 rfl
end

variable{Ds:List (DataW Unit)}
section
variable{held:Bool}
def KT(P:Program)(W:World)(held:Bool)(t:TypeId)(hb:DataW Unit)(cells:List Value):Prop:=
 P.cellsOf t=cells.length/\ ∀fuel cs x,DataW.trod (fun _=>()) P W 0 (fun _=>true) held fuel t cs=some x->x.1=hb->cs=cells
def Ao{n:Int}(h:P.underlying t=some (.int k))(hc:P.cellsOf t=1):KT P W held t (.lit (.int k n)) [.int k n]:=⟨hc,fun fuel cs x A hD=>by
 obtain⟨m,H,J,_⟩:=DataW.trod_int h A
 subst J
 simp only [DataW.lit.injEq,Lit.int.injEq,true_and]at hD
 rw [H,hD]⟩
def dJ{s:List UInt8}(h:P.underlying t=some .string)(hc:P.cellsOf t=1):KT P W held t (.lit (.string s)) [.string ⟨s.toArray⟩]:=⟨hc,fun fuel cs x A hD=>by
 obtain⟨m,H,J,_⟩:=DataW.trod_string h A
 subst J
 simp only [DataW.lit.injEq,Lit.string.injEq]at hD
 subst hD
 rw [H]⟩
def FC(P:Program)(W:World)(held:Bool)(off:Nat)(l:List (TypeId×Nat))(Ds:List (DataW Unit))(cells:List Value):Prop:=
 ∀(n:Nat) (cs:List Value),cs.length=off+cells.length->(∀(i:Nat) f,l[i]? =some f-> ∃x,DataW.trod (fun _=>()) P W 0 (fun _=>true) held n f.1 ((cs.drop f.2).take (P.cellsOf f.1))=some x/\Ds[i]? =some x.1)->cs.drop off=cells
def yf:FC P W held off [] [] []:=fun n cs hl _=>se (by simp at hl;omega)
def c0{off' :Nat}{l:List (TypeId×Nat)}{hb:DataW Unit}{c:List Value}(h:KT P W held t hb c)(ho:off' =off+c.length)(k:FC P W held off' l Ds cells):FC P W held off ((t,off)::l) (hb::Ds) (c++cells):=fun n cs hl A=>by
 obtain⟨x,H,J⟩:=A 0 (t,off) rfl
 simp only [List.getElem?_cons_zero,CM]at J
 have h3:=h.2 n _ x H J.symm
 have h4:=k n cs (by rw [hl,ho,j6];omega) fun i f hf=>by simpa using A (i+1) f (by simpa using hf)
 have e:cs.drop off=(cs.drop off).take (P.cellsOf t)++cs.drop off' :=by
  rw [ho,<-h.1,<-tA,o8]
 rw [e,h4]
 exact congrArg (· ++cells) h3
def sO{l:List (TypeId×Nat)}(Y:(P.underlying t).map (fun ac=>match ac with| .struct l=>(true,l.toList.map fun f=>(f.type,f.offset))|_=>(false,[]))=some (true,l))(hc:P.cellsOf t=cells.length)(hf:FC P W held 0 l Ds cells):KT P W held t (.agg Ds) cells:=⟨hc,fun fuel cs x A hD=>by
 obtain⟨fs,H,J⟩: ∃fs,P.underlying t=some (.struct fs)/\fs.toList.map (fun f=>(f.type,f.offset))=l:=by
  cases hu:P.underlying t with
  |none=>rw [hu]at Y;cases Y
  |some ac=>
   rw [hu]at Y
   cases ac<;>simp at Y
   exact⟨_,rfl,Y⟩
 obtain⟨xs,n,rfl,h3,h4,h5,h6⟩:=DataW.trod_struct H A
 rw [h3]at hD
 simp only [DataW.agg.injEq]at hD
 have:=hf n cs (by rw [h4,hc];omega) fun i f hi=>by
  rw [<-J,y4]at hi
  obtain⟨f0,hf0,rfl⟩:=Em.1 hi
  have h7:=h6 i f0 (by simpa using hf0)
  have hlt:i<xs.length:=by
   have:=(mO.1 hf0).1
   rw [h5];simpa using this
  rw [nw hlt]at h7
  exact⟨xs[i],h7,by rw [<-hD];simp [hlt]⟩
 rwa [r0]at this⟩
def Eu{m:Nat}(Y:P.underlying t=some (.array m e))(hc:P.cellsOf t=cells.length)(hf:FC P W held 0 ((List.range m).map fun i=>(e,i*P.cellsOf e)) Ds cells):KT P W held t (.agg Ds) cells:=⟨hc,fun fuel cs x A hD=>by
 obtain⟨xs,n,rfl,h3,h4,h5,h6⟩:=DataW.trod_array Y A
 rw [h3]at hD
 simp only [DataW.agg.injEq]at hD
 have:=hf n cs (by rw [h4,hc];omega) fun i f hi=>by
  rw [y4]at hi
  obtain⟨j,hj,rfl⟩:=Em.1 hi
  obtain⟨hlt,hj2⟩:=mO.1 hj
  simp at hlt hj2
  subst hj2
  have h7:=h6 i hlt
  have hlt' :i<xs.length:=by rw [h5];exact hlt
  rw [nw hlt']at h7
  exact⟨xs[i],h7,by rw [<-hD];simp [hlt']⟩
 rwa [r0]at this⟩
def B6: ∀{L:List (String×DataW Unit)} {ps:List MemPlace},DataW.LaidVars P W L ps-> ∀n ac,(n,ac)∈L-> ∃g t cs fuel p,P.globalNamed n=some g/\(P.globals[g]?).map (·.type)=some t/\W.var? P n=some cs/\DataW.trod (fun _=>()) P W 0 (fun _=>true) false fuel t cs.toList=some (ac,p)
 |(_,_)::_,_,⟨g,t,cs,fuel,p,_,H,J,h3,h4,_,_⟩,_,_,.head _=>⟨g,t,cs,fuel,p,H,J,h3,h4⟩
 |(_,_)::_,_,⟨_,_,_,_,_,_,_,_,_,_,h,_⟩,n,ac,.tail _ hm=>B6 h n ac hm
def uv{L:List (String×DataW Unit)}(h:laidMet P L W){n:String}{ac:DataW Unit}(hm:(n,ac)∈L){g:Nat}(K:P.globalNamed n=some g)(Y:(P.globals[g]?).map (·.type)=some t)(hc:KT P W false t ac cells):
  ∃c T fr,W.heap[g]? =some (.cells c T fr)/\c.toList.take cells.length=cells:=by
 obtain⟨ps,hL,_,_⟩:=h
 obtain⟨g',t',cs,fuel,p,H,J,h3,h4⟩:=B6 hL n ac hm
 obtain rfl:=kP (K.symm.trans H)
 obtain rfl:=kP (Y.symm.trans J)
 have h5:=hc.2 fuel _ _ h4 rfl
 unfold World.var? at h3
 rw [K]at h3
 simp only [eC]at h3
 split at h3
 ·rename_i c T fr D
  cases h3
  exact⟨_,_,_,D,by rw [h5,Br]⟩
 ·cases h3
end

def BW{α:Type}{r:Rp α}(hfree: ∀{S S' :SH} {cs:List Value} {x:α},r.rc S cs x->r.rc S' cs x){S S' :SH}: ∀{xs:List α} {cs:List Value},mL r S cs xs->mL r S' cs xs
 |[],_,h=>h
 |_::_,_,h=>by
  obtain⟨ds,es,H,J,h3⟩:=h
  exact⟨ds,es,H,hfree J,BW hfree h3⟩
def O5{l:Option Nat}(h:sm mm r T l cap xs w S)(hs:hY w S): ∃S1,lu S S1/\hY w S1/\(V (dz r) xs).p S1 (M l cap xs.length):=by
 cases mm with
 |true=>exact⟨S,SH.le_refl _,hs,ir h⟩
 |false=>
  obtain⟨cells,H,J,h3⟩:=h
  cases l with
  |none=>exact⟨S,SH.le_refl _,hs,ir (T:=T) ⟨cells,H,J,fun b D=>(by cases D)⟩⟩
  |some b=>
   obtain⟨cur,g1,g2,g3,g4,g5⟩:=H
   have hoo:yD (.cells cells.toArray T (0,0)) (.cells cur T (0,0)):=by
    refine⟨cur.toList.drop (xs.length*r.sz),?_⟩
    congr 1
    apply Array.ext'
    rw [<-g5,o8]
   have hn:S b=none:=h3 b rfl
   have hle:lu S (S.set b (.cells cells.toArray T (0,0))):=rP fun q hq=>(by rw [hn]at hq;cases hq)
   have hsat:hY w (S.set b (.cells cells.toArray T (0,0))):=hs.set g1 hoo fun q hq=>by rw [hn]at hq;cases hq
   refine⟨_,hle,hsat,ir (T:=T) ⟨cells,⟨cur,g1,g2,g3,g4,g5⟩,mv hle J,fun b' hb' =>?_⟩⟩
   have hb2:b=b' :=kP hb'
   subst hb2
   exact jN _ _ _
section
variable{ty:TypeId}
end

section
variable{ty:TypeId}
def hH(hag:r.agg=true)(hr: ∀S,r.rc S [v] y)(h:ax N G x (tV (.agg #[v]))):ax N G x (V r y):=fun S a hf=>⟨[v],by rw [Rp.val,fE hag];exact h S a hf,hr S⟩
end

section
variable{N:Nat}{w0:World}{S0:SH}{fn:Func}{ι:Type}{t:ι->Ty}{O2:ι->List OE}
end

section
variable{ty:TypeId}
end
section
variable{ty:TypeId}
end

def I{α:Sort _}{a:α}:a=a:=rfl
def Q:True:=trivial
abbrev aO(x:Int):Ty:=V (rI .i64) x
abbrev ia(x:Bool):Ty:=V rB x
abbrev jf{α:Type}(l:List α):Ty:=V (rI .i64) (l.length:Int)
abbrev Mq:Rp (List Int):=dz (rI .i64)
abbrev lE(l:List Int):Ty:=V (dz (rI .i64)) l
abbrev fO{α:Type}(r:Rp α)(l:List α):Ty:=V (dz r) l
abbrev oq{α:Type}(l:Option Nat)(c:Nat)(xs:List α):Ty:=tV (M l c xs.length)
def be: ∀{G' G:io},G'.map (fun p=>look G p.1)=G'.map (fun p=>some p.2)->FK G' G
 |[],_,_=>trivial
 |(_,_)::_,_,h=>⟨(List.cons.inj h).1,be (List.cons.inj h).2⟩

section
variable{ty:TypeId}
def fh{x:Nat}{t:Ty}(h:look G x=some t):bE E O G ⟨dst,.move (.tmp x),ty,pos,after,g⟩ t:=bt (Y h)
def wA{x:Nat}{t:Ty}(h:look G x=some t):bE E O G ⟨dst,.assign (.tmp x),ty,pos,after,g⟩ t:=bC (Y h)
def OY{n:Int}:bE E O G ⟨dst,.assign (.const (.int k n)),ty,pos,after,g⟩ (V (rI k) n):=bC hI
def zab{b:Bool}:bE E O G ⟨dst,.assign (.const (.bool b)),ty,pos,after,g⟩ (V rB b):=bC hB
def o9{x:α}{p:Nat}(ti:TI E.P U sz bytes agg z)(hp:look G p=some (bb r x))(hs:(r.sz,r.agg)=(sz,agg)):
  bE E O G ⟨dst,.load U (.tmp p),ty,pos,after,g⟩ (V r x):=fS ti (px hs).1 (px hs).2 (Y hp)
def oo{get:α->β}{x:α}{i:Nat}{p:Nat}(hf:aX E.P T i=some (off,sz))(hq:fW r off q get)(hp:look G p=some (bb r x))(h0:(!(Nat.beq sz 0)&&Nat.ble (off+q.sz) r.sz)=true):bE E O G ⟨dst,.fieldAddr T (.tmp p) i,ty,pos,after,g⟩ (bb q (get x)):=
 gY hf (by cases h:Nat.beq sz 0<;>simp [h]at h0 ⊢) hq (by revert h0;cases Nat.ble (off+q.sz) r.sz<;>simp) (Y hp)
def Mx{x:Nat}(hu:E.P.underlying t=some (.slice e))(A:look G x=some (V (dz r) xs)):
  bE E O G ⟨dst,.call ⟨.builtin .len,#[.tmp x],#[t]⟩,ty,pos,after,g⟩ (V (rI .i64) (xs.length:Int)):=fJ hu (Y A)
def ro{x:Nat}{i:Nat}{t:Ty}(hi:ts[i]? =some t)(A:look G x=some (tT ts)):bE E O G ⟨dst,.extract (.tmp x) i,ty,pos,after,g⟩ t:=xQ hi (Y A)
def zbx{v:α}{x:Nat}(A:look G x=some (V r v)):bE E O G ⟨dst,.box T (.tmp x),ty,pos,after,g⟩ (bb r v):=Dt (Y A)
def zpa{c x:Nat}{b q:Bool}(hc:look G c=some (V rB b))(A:look G x=some (j7 b (V rB q))):bE E O G ⟨dst,.pick (.tmp c) (.tmp x) (.const (.bool false)),ty,pos,after,g⟩ (V rB (b&&q)):=f9 (Y hc) (fun D=>bI A D)
def OU{c x:Nat}{b q:Bool}(hc:look G c=some (V rB b))(A:look G x=some (j7 (!b) (V rB q))):bE E O G ⟨dst,.pick (.tmp c) (.const (.bool true)) (.tmp x),ty,pos,after,g⟩ (V rB (b||q)):=rA (Y hc) (fun D=>bI A (lD D))
variable{xt yt:TypeId}{x y:Nat}{m n:Int}
def OV(A:look G x=some (V (rI k) m))(hy:look G y=some (V (rI k) n)):bE E O G ⟨dst,.binOp .lss xt (.tmp x) (.tmp y) yt,ty,pos,after,g⟩ (V rB (decide (m<n))):=fl (Y A) (Y hy)
def OX{j:IntKind}(A:look G x=some (V (rI j) m)):bE E O G ⟨dst,.binOp .eql xt (.tmp x) (.const (.int j n)) yt,ty,pos,after,g⟩ (V rB (m==n)):=mg (Y A) hI
def zni{j:IntKind}(A:look G x=some (V (rI j) m)):bE E O G ⟨dst,.binOp .neq xt (.tmp x) (.const (.int j n)) yt,ty,pos,after,g⟩ (V rB (m !=n)):=eJ (Y A) hI
def IP{y:α}{x ix:Nat}{k:IntKind}{i:Int}(hu:E.P.underlying t=some (.slice e))(ti:TI E.P e sz bytes agg z)(hsz:r.sz=sz)(A:look G x=some (V (dz r) xs))(hi:look G ix=some (V (rI k) i))(hy:gI xs i=some y):
  bE E O G ⟨dst,.indexAddr t (.tmp x) (.tmp ix),ty,pos,after,g⟩ (bb r y):=eL hu ti hsz (Y A) (Y hi) hy
def OW{i:Nat}{x:Nat}{xt yt:TypeId}(hi:i<9223372036854775807)(A:look G x=some (V (rI .i64) (i:Int))):
  bE E O G ⟨dst,.binOp .add xt (.tmp x) (.const (.int .i64 1)) yt,ty,pos,after,g⟩ (V (rI .i64) ((i+1:Nat):Int)):=pF hi (Y A) hI
def lA{i o:Nat}{p:Nat}(n:Nat)(hf:aX E.P T i=some (off,sz))(h0:Nat.beq sz 0=false)(hp:look G p=some (tV (aj b o)))(he:o+off=n):bE E O G ⟨dst,.fieldAddr T (.tmp p) i,ty,pos,after,g⟩ (tV (aj b n)):=o0 (n:=n) hf h0 (Y hp) he
end
section
variable{l:List Oper}
def zo{ty:TypeId}{t:Ty}(hd:Nat.blt ac E.N.n=true)(h:bE E O G ⟨some ac,op,ty,pos,after,none⟩ t)(k:RG E ops ay l O ((ac,t)::G)):
  RG E ops ay (⟨some ac,op,ty,pos,after,none⟩::l) O G:=zV h hd k
def nL(n ac:Nat)(r:Option Ty):Option Ty:=if Nat.blt ac n then r else none
def cm{r:Option Ty}{t:Ty}(h:nL n ac r=some t):Nat.blt ac n=true/\r=some t:=by
 unfold nL at h;split at h
 case isTrue H=>exact⟨H,h⟩
 case isFalse=>cases h
def a8{x:Nat}{ty:TypeId}{t:Ty}(h:nL E.N.n ac (look G x)=some t)(k:RG E ops ay l O ((ac,t)::G)):
  RG E ops ay (⟨some ac,.move (.tmp x),ty,pos,after,none⟩::l) O G:=zV (bt (Y (cm h).2)) (cm h).1 k
def gJ{x:Nat}{ty:TypeId}{t:Ty}(h:nL E.N.n ac (look G x)=some t)(k:RG E ops ay l O ((ac,t)::G)):
  RG E ops ay (⟨some ac,.assign (.tmp x),ty,pos,after,none⟩::l) O G:=zV (bC (Y (cm h).2)) (cm h).1 k
def bG{y:Code}(h:CG E ay y O G):RG E ops (Exit.then (y.wpIn (fw E.r) 0 E.P ay) ay) [] O G:=bu (av h)
def aU{id:Nat}{l:List Oper}{y:Code}(h:RG E l.toArray (Exit.then (y.wpIn (fw E.r) 0 E.P ay) ay) l O G):CG E ay (.seq (.region id l.toArray false) y) O G:=aF (aL h)
def m3{β:Type _}{X ht:Option β}{r:β}{c:Nat}{x y:Code}{b:Bool}(h:(if b=true then X else ht)=some r)(D:look G c=some (V rB b))(A:X=some r->CG E ay x O G)(hy:ht=some r->CG E ay y O G):CG E ay (.cond (.tmp c) x y) O G:=
 w7 (Y D) (fun hc=>A (ct h hc)) (fun hc=>hy (cf h hc))
def ip{y:Code}(h:CG E ay y O G):CG E (Exit.then (y.wpIn (fw E.r) 0 E.P ay) ay) .skip O G:=bA (av h)
def zgt{j gs:Nat}{b:Bool}{ty:TypeId}{t:Ty}(hj:(ops[j]?).bind (·.dst)=some gs)(K:nL E.N.n gs (nL E.N.n ac (look G gs))=some (V rB b))(h:b=true->bE E O G ⟨some ac,op,ty,pos,after,some (j,true)⟩ t)(k:RG E ops ay l O ((ac,j7 b t)::G)):RG E ops ay (⟨some ac,op,ty,pos,after,some (j,true)⟩::l) O G:=Kn hj (cm K).1 (cm (cm K).2).2 (cm (cm K).2).1 h k
def zgf{j gs:Nat}{b:Bool}{ty:TypeId}{t:Ty}(hj:(ops[j]?).bind (·.dst)=some gs)(K:nL E.N.n gs (nL E.N.n ac (look G gs))=some (V rB b))(h:(!b)=true->bE E O G ⟨some ac,op,ty,pos,after,some (j,false)⟩ t)(k:RG E ops ay l O ((ac,j7 (!b) t)::G)):RG E ops ay (⟨some ac,op,ty,pos,after,some (j,false)⟩::l) O G:=Ko hj (cm K).1 (cm (cm K).2).2 (cm (cm K).2).1 h k
end
def ck{α:Type _}{β:Type _}{x:Option α}{k:α->Option β}{r:β}{P:Prop}(h:x.bind k=some r)(f: ∀y,x=some y->k y=some r->P):P:=by
 obtain⟨y,H,J⟩:=bs h;exact f y H J
variable{u1:Ty}
section
variable{l:List Oper}{i:Nat}{t:Ty}
def wQ{a b c:Bool}(h:(a&&b&&c)=true):a=true/\b=true/\c=true:=by revert h;cases a<;>cases b<;>cases c<;>simp
def M8{x:Option α}(h:x.isNone=true):x=none:=by cases x;rfl;cases h
def zd0(h:ts[i]? =some t)(k:bE E O [] o t)(D:(di i o&&o.guard.isNone)=true:=by exact rfl): ∃(needs:List Nd) (t:Ty),ts[i]? =some t/\mH G ts needs/\(needs.all (j8 l o i))=true/\di i o=true/\ba E O l.toArray (fB needs) o t:=
 ⟨[],t,h,trivial,rfl,(Bo.1 D).1,h2 (M8 (Bo.1 D).2) k⟩
def rp(a:Nat)(h:ts[i]? =some t)(hu:rj G ts ⟨a,u,none⟩)(k:bE E O [(a,u)] o t)(D:([(⟨a,u,none⟩:Nd)].all (j8 l o i)&&di i o&&o.guard.isNone)=true:=by exact rfl): ∃(needs:List Nd) (t:Ty),ts[i]? =some t/\mH G ts needs/\(needs.all (j8 l o i))=true/\di i o=true/\ba E O l.toArray (fB needs) o t:=
 ⟨[(⟨a,u,none⟩:Nd)],t,h,⟨hu,trivial⟩,(wQ D).1,(wQ D).2.1,h2 (M8 (wQ D).2.2) k⟩
def gH(a:Nat)(j:Nat)(h:ts[i]? =some t)(hu:rj G ts ⟨a,u,(some j)⟩)(k:bE E O [(a,u)] o t)(D:([(⟨a,u,(some j)⟩:Nd)].all (j8 l o i)&&di i o&&o.guard.isNone)=true:=by exact rfl): ∃(needs:List Nd) (t:Ty),ts[i]? =some t/\mH G ts needs/\(needs.all (j8 l o i))=true/\di i o=true/\ba E O l.toArray (fB needs) o t:=
 ⟨[(⟨a,u,(some j)⟩:Nd)],t,h,⟨hu,trivial⟩,(wQ D).1,(wQ D).2.1,h2 (M8 (wQ D).2.2) k⟩
def tL(a:Nat)(a1:Nat)(j1:Nat)(h:ts[i]? =some t)(hu:rj G ts ⟨a,u,none⟩)(hu1:rj G ts ⟨a1,u1,(some j1)⟩)(k:ba E O l.toArray [(a,u),(a1,u1)] o t)(D:([(⟨a,u,none⟩:Nd),⟨a1,u1,(some j1)⟩].all (j8 l o i)&&di i o)=true:=by exact rfl): ∃(needs:List Nd) (t:Ty),ts[i]? =some t/\mH G ts needs/\(needs.all (j8 l o i))=true/\di i o=true/\ba E O l.toArray (fB needs) o t:=
 ⟨[(⟨a,u,none⟩:Nd),⟨a1,u1,(some j1)⟩],t,h,⟨hu,hu1,trivial⟩,(Bo.1 D).1,(Bo.1 D).2,k⟩
def ij(a:Nat)(j:Nat)(a1:Nat)(j1:Nat)(h:ts[i]? =some t)(hu:rj G ts ⟨a,u,(some j)⟩)(hu1:rj G ts ⟨a1,u1,(some j1)⟩)(k:bE E O [(a,u),(a1,u1)] o t)(D:([(⟨a,u,(some j)⟩:Nd),⟨a1,u1,(some j1)⟩].all (j8 l o i)&&di i o&&o.guard.isNone)=true:=by exact rfl): ∃(needs:List Nd) (t:Ty),ts[i]? =some t/\mH G ts needs/\(needs.all (j8 l o i))=true/\di i o=true/\ba E O l.toArray (fB needs) o t:=
 ⟨[(⟨a,u,(some j)⟩:Nd),⟨a1,u1,(some j1)⟩],t,h,⟨hu,hu1,trivial⟩,(wQ D).1,(wQ D).2.1,h2 (M8 (wQ D).2.2) k⟩
def nz(a:Nat)(j:Nat)(a1:Nat)(j1:Nat)(h:ts[i]? =some t)(hu:rj G ts ⟨a,u,(some j)⟩)(hu1:rj G ts ⟨a1,u1,(some j1)⟩)(k:ba E O l.toArray [(a,u),(a1,u1)] o t)(D:([(⟨a,u,(some j)⟩:Nd),⟨a1,u1,(some j1)⟩].all (j8 l o i)&&di i o)=true:=by exact rfl): ∃(needs:List Nd) (t:Ty),ts[i]? =some t/\mH G ts needs/\(needs.all (j8 l o i))=true/\di i o=true/\ba E O l.toArray (fB needs) o t:=
 ⟨[(⟨a,u,(some j)⟩:Nd),⟨a1,u1,(some j1)⟩],t,h,⟨hu,hu1,trivial⟩,(Bo.1 D).1,(Bo.1 D).2,k⟩
def My(a:Nat)(j:Nat)(a1:Nat)(j1:Nat)(a2:Nat)(j2:Nat){u2:Ty}(h:ts[i]? =some t)(hu:rj G ts ⟨a,u,(some j)⟩)(hu1:rj G ts ⟨a1,u1,(some j1)⟩)(hu2:rj G ts ⟨a2,u2,(some j2)⟩)(k:bE E O [(a,u),(a1,u1),(a2,u2)] o t)(D:([(⟨a,u,(some j)⟩:Nd),⟨a1,u1,(some j1)⟩,⟨a2,u2,(some j2)⟩].all (j8 l o i)&&di i o&&o.guard.isNone)=true:=by exact rfl): ∃(needs:List Nd) (t:Ty),ts[i]? =some t/\mH G ts needs/\(needs.all (j8 l o i))=true/\di i o=true/\ba E O l.toArray (fB needs) o t:=
 ⟨[(⟨a,u,(some j)⟩:Nd),⟨a1,u1,(some j1)⟩,⟨a2,u2,(some j2)⟩],t,h,⟨hu,hu1,hu2,trivial⟩,(wQ D).1,(wQ D).2.1,h2 (M8 (wQ D).2.2) k⟩
def vU(a:Nat)(j:Nat)(a1:Nat)(j1:Nat)(a2:Nat)(j2:Nat){u2:Ty}(h:ts[i]? =some t)(hu:rj G ts ⟨a,u,(some j)⟩)(hu1:rj G ts ⟨a1,u1,(some j1)⟩)(hu2:rj G ts ⟨a2,u2,(some j2)⟩)(k:ba E O l.toArray [(a,u),(a1,u1),(a2,u2)] o t)(D:([(⟨a,u,(some j)⟩:Nd),⟨a1,u1,(some j1)⟩,⟨a2,u2,(some j2)⟩].all (j8 l o i)&&di i o)=true:=by exact rfl): ∃(needs:List Nd) (t:Ty),ts[i]? =some t/\mH G ts needs/\(needs.all (j8 l o i))=true/\di i o=true/\ba E O l.toArray (fB needs) o t:=
 ⟨[(⟨a,u,(some j)⟩:Nd),⟨a1,u1,(some j1)⟩,⟨a2,u2,(some j2)⟩],t,h,⟨hu,hu1,hu2,trivial⟩,(Bo.1 D).1,(Bo.1 D).2,k⟩
end
end Go.Proofs.YthbdkceckjihgaaGreatDoor

