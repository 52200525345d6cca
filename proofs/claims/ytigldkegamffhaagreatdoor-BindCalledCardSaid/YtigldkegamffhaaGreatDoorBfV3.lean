/- de of this claim: W33, W34, W35, W36, W37, W38, W39, W40, W48, W50, W51, W41, W42, W43, W21, W27, W45, W46, W47, W52, W53, W56, W57. -/
import Derived.Test.YtigldkegamffhaaGreatDoorBfV2
import Derived.Lib.Bytealg
import Derived.Maps.Range
import Derived.Laws.IdiomRangeMap
import Derived.Test.YtigldkegamffhaaGreatDoorBfV1
import Derived.Laws.BytesString
import Derived.Below
import Derived.ProofKit
import Derived.OpenShut
import Derived.LaidMore
import Derived.Laws.Externs
set_option linter.all false
namespace Go.Proofs.YtigldkegamffhaaGreatDoor
open Go

def yI(N:Nat):List Nat->List Oper->Bool
 |_,[]=>true
 |seen,o::rest=>match o.dst with
  |some aN=>Nat.blt aN N&& !(seen.any (Nat.beq aN))&&yI N (aN::seen) rest
  |none=>yI N seen rest
variable{N:Fr}{β:Type}{aN:Nat}{j:Int}{o:Oper}{p:Operand}{q:Rp β}
def EZ{N:Nat}(l:List Oper): ∀(seen:List Nat),yI N seen l=true->
  (∀o:Oper,o∈l-> ∀aN,o.dst=some aN->aN<N/\aN∉seen)/\ ∀(i j:Nat) (o p:Oper) (aN:Nat),l[i]? =some o->l[j]? =some p->o.dst=some aN->p.dst=some aN->i=j:=by
 induction l with
 |nil=>exact fun _ _=>⟨fun _ h=>(by cases h),fun _ _ _ _ _ h=>(by simp at h)⟩
 |cons o l ih=>
  intro seen h
  unfold yI at h
  cases hd:o.dst with
  |none=>
   rw [hd]at h
   obtain⟨A,V⟩:=ih seen h
   refine⟨fun q hq aN hqd=>?_,fun i j p q aN hi hj hp hq=>?_⟩
   ·rcases f7.1 hq with rfl|hq
    ·rw [hd]at hqd;cases hqd
    ·exact A q hq aN hqd
   ·cases i with
    |zero=>simp at hi;subst hi;rw [hd]at hp;cases hp
    |succ i=>
     cases j with
     |zero=>simp at hj;subst hj;rw [hd]at hq;cases hq
     |succ j=>rw [V i j p q aN (by simpa using hi) (by simpa using hj) hp hq]
  |some d0=>
   rw [hd]at h
   simp only [gQ,sr,yn]at h
   obtain⟨⟨g1,g2⟩,g3⟩:=h
   obtain⟨A,V⟩:=ih (d0::seen) g3
   have hns:d0∉seen:=fun hm=>by
    have:seen.any (Nat.beq d0)=true:=Dx.2 ⟨d0,hm,Nat.beq_refl d0⟩
    rw [this]at g2;cases g2
   refine⟨fun q hq aN hqd=>?_,fun i j p q aN hi hj hp hq=>?_⟩
   ·rcases f7.1 hq with rfl|hq
    ·rw [hd]at hqd;cases hqd;exact⟨g1,hns⟩
    ·obtain⟨k1,k2⟩:=A q hq aN hqd
     exact⟨k1,fun hm=>k2 (li _ hm)⟩
   ·cases i with
    |zero=>
     cases j with
     |zero=>rfl
     |succ j=>
      simp at hi;subst hi
      rw [hd]at hp;cases hp
      exact absurd (lg ..) (A q (sR (by simpa using hj)) d0 hq).2
    |succ i=>
     cases j with
     |zero=>
      simp at hj;subst hj
      rw [hd]at hq;cases hq
      exact absurd (lg ..) (A p (sR (by simpa using hi)) d0 hp).2
     |succ j=>rw [V i j p q aN (by simpa using hi) (by simpa using hj) hp hq]
def L9:List Oper->List Ty->lY->lY
 |o::l,t::ts,G=>match o.dst with
  |some aN=>(aN,t)::L9 l ts G
  |none=>L9 l ts G
 |_,_,G=>G
variable{G:lY}{e:TypeId}{k:IntKind}{t:TypeId}{ts:List Ty}{u:Value}
def Jp(l:List Oper): ∀(ts:List Ty) (k:Nat) (t:Ty),ts.length=l.length->look (L9 l ts G) k=some t->
  (∃(j:Nat) (o:Oper),l[j]? =some o/\o.dst=some k/\ts[j]? =some t)\/(look G k=some t/\ ∀o:Oper,o∈l->o.dst≠some k):=by
 induction l with
 |nil=>
  intro ts k t hl h
  have:ts=[]:=wA (by simpa using hl)
  subst this
  exact .inr ⟨h,fun _ h=>(by cases h)⟩
 |cons o l ih=>
  intro ts k t hl h
  cases ts with
  |nil=>simp at hl
  |cons u ts=>
   unfold L9 at h
   have hl' :ts.length=l.length:=by simpa using hl
   have lift:((∃(j:Nat) (p:Oper),l[j]? =some p/\p.dst=some k/\ts[j]? =some t)\/(look G k=some t/\ ∀p:Oper,p∈l->p.dst≠some k))->o.dst≠some k->
     (∃(j:Nat) (p:Oper),(o::l)[j]? =some p/\p.dst=some k/\(u::ts)[j]? =some t)\/(look G k=some t/\ ∀p:Oper,p∈o::l->p.dst≠some k):=by
    rintro(⟨j,p,A,V,h3⟩|⟨A,V⟩) hne
    ·exact .inl ⟨j+1,p,by simpa using A,V,by simpa using h3⟩
    ·exact .inr ⟨A,fun p hp=>(f7.1 hp).elim (fun e=>by subst e;exact hne) (V p)⟩
   cases hd:o.dst with
   |none=>
    rw [hd]at h
    exact lift (ih ts k t hl' h) (by rw [hd];exact fun e=>by cases e)
   |some aN=>
    rw [hd]at h
    simp only at h
    unfold look at h
    by_cases H:Nat.beq aN k=true
    ·rw [H]at h
     have:=pF H
     subst this
     have e:u=t:=by simpa using h
     subst e
     exact .inl ⟨0,o,rfl,hd,rfl⟩
    ·rw [Dy]at H
     rw [H]at h
     refine lift (ih ts k t hl' h) ?_
     rw [hd]
     intro e
     have:aN=k:=nR e
     subst this
     simp at H
abbrev TS:=List Nat×(List OI->Ty)
def TS.at(p:TS)(σ:Nat->OI):Ty:=p.2 (p.1.map σ)
def tc(t:Ty):TS:=([],fun _=>t)
def TA(Ss:List ((Nat->OI)->List OE))(c:Nat)(σ:Nat->OI):List OE:=match Ss[c]? with|some f=>f σ|none=>[]
structure NS where
 slot:Nat
 ty:(Nat->OI)->Ty
 src:Option Nat
def NS.at(n:NS)(σ:Nat->OI):Nd:=⟨n.slot,n.ty σ,n.src⟩
def XP(G:lY)(ts:List TS)(n:NS):Prop:=
 match n.src with
 |some j=> ∀σ,(ts[j]?).map (fun p=>p.at σ)=some (n.ty σ)
 |none=> ∀σ,look G n.slot=some (n.ty σ)
def xV(G:lY)(ts:List TS):List NS->Prop
 |[]=>True
 |n::l=>XP G ts n/\xV G ts l
variable{n:Nat}
def xV.mem{ts:List TS}: ∀{l:List NS},xV G ts l-> ∀n∈l,XP G ts n
 |_::_,⟨h,_⟩,_,.head _=>h
 |_::_,⟨_,h⟩,_,.tail _ hm=>xV.mem h _ hm
def xM(l:List NS)(σ:Nat->OI):lY:=j9 (l.map (·.at σ))
def VY(ts:List TS)(σ:Nat->OI):List Ty:=ts.map fun p=>p.at σ
def SV(L:List Oper)(es:List Bool)(i:Nat)(p:TS):Bool:=p.1.all fun k=>(es[k]?).getD false&&(Nat.beq k i||nN L L.length i k)
def YA(L:List Oper)(es:List Bool)(i lo hi:Nat):Bool:=
 Nat.ble lo (ij es es.length)&&(List.range es.length).all fun k=> !((es[k]?).getD false)||((Nat.ble lo (ij es k)||nN L L.length i k)&&(Nat.blt (ij es k) hi||nN L L.length k i))
def DS(E:En)(G:lY)(L:List Oper)(ts:List TS)(Ss:List ((Nat->OI)->List OE))(es0:List Bool):Nat->Nat->List Oper->List Bool->Prop
 |_,_,[],_=>True
 |i,c,o::rest,false::es=>(∃(needs:List NS) (t:TS) (lo hi:Nat),ts[i]? =some t/\xV G ts needs/\(needs.all fun n=>pH L o i (n.at fun _=>oA))=true/\fK i o=true/\SV L es0 i t=true/\YA L es0 i lo hi=true/\o.dst.isSome=true/\
   ∀c σ,lo<=c->c<=hi->bj E (TA Ss c σ) L.toArray (xM needs σ) o (t.at σ))/\DS E G L ts Ss es0 (i+1) c rest es
 |i,c,o::rest,true::es=>(∃(needs:List NS) (t:TS),ts[i]? =some t/\xV G ts needs/\(needs.all fun n=>pH L o i (n.at fun _=>oA))=true/\fK i o=true/\SV L es0 i t=true/\
   ∀σ,jD E L.toArray (TA Ss c σ) (xM needs σ) o (fun x=>TA Ss (c+1) (upd σ i x)) (fun x=>t.at (upd σ i x)))/\DS E G L ts Ss es0 (i+1) (c+1) rest es
 |_,_,_::_,[]=>False
variable{E:En}{L:List Oper}{Ss:List ((Nat->OI)->List OE)}{c:Code}{es:List Bool}{lo:Int}{α:Type}{r:Rp α}{x:Operand}{σ:Nat->OI}
def DS.get{ts:List TS}{es0:List Bool}: ∀(r:List Oper) (es:List Bool) (k c:Nat),DS E G L ts Ss es0 k c r es-> ∀(j:Nat) (o:Oper),r[j]? =some o->
    ∃e,es[j]? =some e/\ ∃(needs:List NS) (t:TS),ts[k+j]? =some t/\xV G ts needs/\(needs.all fun n=>pH L o (k+j) (n.at fun _=>oA))=true/\fK (k+j) o=true/\SV L es0 (k+j) t=true/\
      (match e with
       |false=>o.dst.isSome=true/\ ∃lo hi,YA L es0 (k+j) lo hi=true/\ ∀c σ,lo<=c->c<=hi->bj E (TA Ss c σ) L.toArray (xM needs σ) o (t.at σ)
       |true=> ∀σ,jD E L.toArray (TA Ss (c+ij es j) σ) (xM needs σ) o (fun x=>TA Ss (c+ij es j+1) (upd σ (k+j) x)) (fun x=>t.at (upd σ (k+j) x))):=by
  intro r
  induction r with
  |nil=>intro es k c _ j o h;simp at h
  |cons p r ih=>
    intro es k c h j o ho
    cases es with
    |nil=>exact h.elim
    |cons e es=>
      cases e with
      |false=>
        obtain⟨⟨needs,t,lo,hi,g1,g2,g3,g4,g5,g6,g7,g8⟩,V⟩:=h
        cases j with
        |zero=>
          simp at ho;subst ho
          exact⟨false,rfl,needs,t,g1,g2,g3,g4,g5,g7,lo,hi,g6,g8⟩
        |succ j=>
          obtain⟨e',g1,g2⟩:=ih es (k+1) _ V j o (by simpa using ho)
          refine⟨e',by simpa using g1,?_⟩
          rw [show k+1+j=k+(j+1)from by omega]at g2
          have e1:c+ij (false::es) (j+1)=c+ij es j:=by simp [ij]
          rw [e1];exact g2
      |true=>
        obtain⟨A,V⟩:=h
        cases j with
        |zero=>
          simp at ho;subst ho
          exact⟨true,rfl,A⟩
        |succ j=>
          obtain⟨e',g1,g2⟩:=ih es (k+1) _ V j o (by simpa using ho)
          refine⟨e',by simpa using g1,?_⟩
          rw [show k+1+j=k+(j+1)from by omega]at g2
          have e1:c+ij (true::es) (j+1)=c+1+ij es j:=by simp [ij];omega
          rw [e1];exact g2
structure Yl(E:En)(G:lY)(l:List Oper)(ts:List TS)(Ss:List ((Nat->OI)->List OE))(es:List Bool)(done:Array Bool)(a:Act)(w:World)(S:SH)(σ:Nat->OI)(c:Nat):Prop where
 ext:kx E.B E.w0 E.S0 w S
 sat:lV w S
 own:du E.base E.B w S (TA Ss c σ)
 size:a.tmps.size=E.N.n
 defers:a.defers=E.N.ds
 dsz:done.size=l.length
 down: ∀j o,l[j]? =some o->done.getD j false=true-> ∀e∈o.after,Region.binds .any e=true->done.getD e.on false=true
 old: ∀k t,look G k=some t->(∀j o,l[j]? =some o->done.getD j false=true->o.dst≠some k)->t.p S (a.tmps.getD k undef)
 new: ∀j o aN p,l[j]? =some o->done.getD j false=true->o.dst=some aN->ts[j]? =some p->(p.at σ).p S (a.tmps.getD aN undef)
 deps: ∀j p,done.getD j false=true->ts[j]? =some p-> ∀k∈p.1,done.getD k false=true
 chain: ∀k,es[k]? =some true->(done.getD k false=true↔ij es k<c)
variable{S S' :SH}{a:Act}{b:Nat}{done:Array Bool}{f:FuncId}{κ:Type}{m:List (κ×β)}{v:Value}{w w' :World}
section
variable{ts:List TS}
def Yl.need{c:Nat}(h:Yl E G L ts Ss es done a w S σ c){i:Nat}(hi:L[i]? =some o)(hun:done.getD i true=false)(hwait: ∀e∈o.after,Region.binds .any e=true->done.getD e.on false=true){needs:List NS}(A:xV G ts needs)(V:(needs.all fun n=>pH L o i (n.at fun _=>oA))=true):de E.N S a (xM needs σ):=by
 have hlt:i<done.size:=by rw [h.dsz];exact(o5.1 hi).1
 have hun' :done.getD i false=false:=by
  simp [hlt]at hun ⊢;exact hun
 refine⟨h.size,h.defers,?_⟩
 have key: ∀n∈needs,(n.ty σ).p S (a.tmps.getD n.slot undef):=by
  intro n hn
  have hs:=mZ.1 V n hn
  have ho:=A.mem n hn
  unfold pH NS.at at hs
  unfold XP at ho
  cases hsrc:n.src with
  |some j=>
   rw [hsrc]at hs ho
   simp only [gQ]at hs
   obtain⟨hs1,hs2⟩:=hs
   cases hj:L[j]? with
   |none=>rw [hj]at hs1;cases hs1
   |some p=>
    rw [hj]at hs1
    cases hd:p.dst with
    |none=>simp only [hd]at hs1;cases hs1
    |some aN=>
     simp only [hd]at hs1
     have hd' :=pF hs1
     subst hd'
     have hdone:done.getD j false=true:=by
      unfold EU at hs2
      obtain⟨e,he0,H⟩:=Dx.1 hs2
      have he:e∈o.after:=by simpa using he0
      simp only [gQ]at H
      have:=hwait e he H.2
      rwa [pF H.1]at this
     have hm:=ho σ
     cases hf:ts[j]? with
     |none=>rw [hf]at hm;simp at hm
     |some f=>
      rw [hf]at hm
      have e:f.at σ=n.ty σ:=by simpa using hm
      rw [<-e]
      exact h.new j p n.slot f hj hdone hd hf
  |none=>
   rw [hsrc]at hs ho
   refine h.old _ _ (ho σ) fun j p hj hdone hd=>?_
   have:=mZ.1 hs p (sR hj)
   simp only [hd,Nat.beq_refl,qg,An]at this
   unfold EU at this
   obtain⟨e,he0,H⟩:=Dx.1 this
   have he:e∈p.after:=by simpa using he0
   simp only [gQ]at H
   have h3:=h.down j p hj hdone e he H.2
   rw [pF H.1]at h3
   rw [h3]at hun'
   cases hun'
 clear A V
 intro k t hk
 unfold xM at hk
 induction needs with
 |nil=>simp [j9,look]at hk
 |cons n needs ih=>
  simp only [pE]at hk
  unfold j9 look at hk
  by_cases H:Nat.beq n.slot k=true
  ·have hb' :Nat.beq (n.at σ).slot k=true:=H
   rw [hb']at hk
   have:=pF H
   subst this
   have h9:some (n.at σ).ty=some t:=by simpa using hk
   have e:n.ty σ=t:=nR h9
   rw [<-e]
   exact key n (lg ..)
  ·rw [Dy]at H
   have hb' :Nat.beq (n.at σ).slot k=false:=H
   rw [hb']at hk
   exact ih (fun m hm=>key m (li _ hm)) hk
def Yl.step{σ' :Nat->OI}{c c' :Nat}(h:Yl E G L ts Ss es done a w S σ c){i:Nat}{p0:TS}{C:Nat->Prop}(hi:L[i]? =some o)(hdN: ∀aN,o.dst=some aN->aN<E.N.n)(hs2: ∀aN,o.dst=some aN-> ∀j p,L[j]? =some p->done.getD j false=true->p.dst=some aN->i=j)(hwait: ∀e∈o.after,Region.binds .any e=true->done.getD e.on false=true)(M:ts[i]? =some p0)(hun:done.getD i true=false)(hdep: ∀k∈p0.1,k=i\/done.getD k false=true)(hext:kx C w S w' S')(hC: ∀b,C b->E.base<=b\/E.B b)(hsat:lV w' S')(hown:du E.base E.B w' S' (TA Ss c' σ'))(hσ: ∀k,k≠i->σ' k=σ k)(hv:(p0.at σ').p S' v)(hch: ∀k,es[k]? =some true->((done.setIfInBounds i true).getD k false=true↔ij es k<c')):
  Yl E G L ts Ss es (done.setIfInBounds i true) (a.put o.dst v) w' S' σ' c' :=by
 have hlt:i<done.size:=by rw [h.dsz];exact(o5.1 hi).1
 have hset: ∀j,(done.setIfInBounds i true).getD j false=true->j=i\/done.getD j false=true:=fun j hj=>by
  by_cases hij:i=j
  ·exact .inl hij.symm
  ·rw [xE false hij]at hj;exact .inr hj
 have hseti:(done.setIfInBounds i true).getD i false=true:=by simp [hlt]
 have hun' :done.getD i false=false:=by simp [hlt]at hun ⊢;exact hun
 have hput: ∀k,(∀aN,o.dst=some aN->aN≠k)->(a.put o.dst v).tmps.getD k undef=a.tmps.getD k undef:=fun k hk=>by
  cases hd:o.dst with
  |none=>rfl
  |some aN=>
   have hda:aN<a.tmps.size:=by rw [h.size];exact hdN aN hd
   rw [vg hda,bm (hk aN hd)]
 refine⟨h.ext.step hext hC,hsat,hown,?_,?_,by simp [h.dsz],fun j p hj hdone e he H=>?_,fun k u hk hno=>?_,fun j p d' u hj hdone hd' hu=>?_,fun j u hj hu k hk=>?_,hch⟩
 ·cases o.dst with
  |none=>exact h.size
  |some aN=>simp [Act.put,h.size]
 ·cases o.dst with
  |none=>exact h.defers
  |some aN=>exact h.defers
 ·rcases hset j hdone with rfl|hj'
  ·rw [hi]at hj
   have:o=p:=by simpa using hj
   subst this
   exact Am (hwait e he H)
  ·exact Am (h.down j p hj hj' e he H)
 ·rw [hput k fun aN hd e=>hno i o hi hseti (by rw [hd,e])]
  exact u.mono hext.keep (h.old k u hk fun j p hj hdone=>hno j p hj (Am hdone))
 ·by_cases hij:j=i
  ·subst hij
   rw [hi]at hj
   have:o=p:=by simpa using hj
   subst this
   have hda:d' <a.tmps.size:=by rw [h.size];exact hdN d' hd'
   rw [hd',vg hda,bv rfl]
   rw [M]at hu
   have:p0=u:=by simpa using hu
   subst this
   exact hv
  ·have hj' :=(hset j hdone).resolve_left hij
   rw [hput d' fun aN hd e=>by subst e;exact hij (hs2 aN hd j p hj hj' hd').symm]
   have e1:u.at σ' =u.at σ:=congrArg u.2 (Lq fun k hk=>hσ k fun e=>by
     subst e
     rw [h.deps j u hj' hu k hk]at hun';cases hun')
   rw [e1]
   exact Ty.mono _ hext.keep (h.new j p d' u hj hj' hd' hu)
 ·rcases hset j hj with rfl|hj'
  ·rw [M]at hu
   have:p0=u:=by simpa using hu
   subst this
   rcases hdep k hk with rfl|h'
   ·exact hseti
   ·exact Am h'
  ·exact Am (h.deps j u hj' hu k hk)
end
variable{af:Exit->Act->World->Prop}
def Lw{l t:List Oper}{ts:List TS}(hsl:yI E.N.n [] l=true)(hlen:ts.length=l.length)(hesl:es.length=l.length)(hd:DS E G (l++t) ts Ss es 0 0 l es)(hch:PE (l++t) es=true)(M:AH (l++t) l.length t.length=true)(hQ: ∀a w S σ,St E (TA Ss (ij es es.length) σ) (L9 l (VY ts σ) G) a w S->wpListIn (fw E.r) 0 E.P (l++t).toArray af t a w):
  ∀(fuel:Nat) (done:Array Bool) (a:Act) (w:World) (S:SH) (σ:Nat->OI) (c:Nat),lK done=fuel->(∀j,l.length<=j->done.getD j false=false)->c<=ij es es.length->Yl E G (l++t) ts Ss es done a w S σ c->wpAnyIn (fw E.r) 0 E.P .any (l++t).toArray af fuel done a w:=by
 have hL1: ∀i o,i<l.length->(l++t)[i]? =some o->l[i]? =some o:=fun i o hi h=>by rwa [Cf hi]at h
 have hL2: ∀i o,l[i]? =some o->(l++t)[i]? =some o:=fun i o h=>by rw [Cf (o5.1 h).1];exact h
 have htail: ∀m o,l.length<=m->(l++t)[m]? =some o->xo (l++t) m=true/\fK m o=true:=fun m o hm ho=>by
  have hml:m<(l++t).length:=(o5.1 ho).1
  rw [gA]at hml
  unfold AH at M
  have:=mZ.1 M (m-l.length) (by simp;omega)
  rw [show l.length+(m-l.length)=m from by omega,ho]at this
  simp only [gQ]at this
  exact⟨this.1,this.2.1⟩
 have hget:=fun i o (hi:l[i]? =some o)=>DS.get l es 0 0 hd i o hi
 have hedge: ∀i o,(l++t)[i]? =some o->fK i o=true:=fun i o hi=>by
  rcases lZ i l.length with h|h
  ·obtain⟨_,_,_,_,_,_,_,h,_⟩:=hget i o (hL1 i o h hi)
   simpa using h
  ·exact(htail i o h hi).2
 obtain⟨hs1,hs2⟩:=EZ l [] hsl
 have fin: ∀fuel done a w S σ c,lK done=fuel->(∀j,l.length<=j->done.getD j false=false)->c<=ij es es.length->Yl E G (l++t) ts Ss es done a w S σ c->(∀i,i<l.length->done.getD i false=true)->wpAnyIn (fw E.r) 0 E.P .any (l++t).toArray af fuel done a w:=by
  intro fuel done a w S σ c hu hfree hcle h hall
  have hcc:c=ij es es.length:=by
   rcases lZ c (ij es es.length)with hlt|hge
   ·obtain⟨i,A,V,h3⟩:=xy hlt
    have:=(h.chain i V).1 (hall i (by omega))
    omega
   ·omega
  subst hcc
  refine Be (n:=l.length) (fun m o hm ho=>(htail m o hm ho).1) hedge t l.length done fuel a w (gu _) (by simp) h.dsz (fun j hj=>⟨fun hjd=>?_,fun hlt=>hall j hlt⟩) hu
   (hQ a w S σ ⟨h.ext,h.sat,h.own,h.size,h.defers,fun j u hj=>?_⟩)
  ·rcases lZ j l.length with h' |h'
   ·exact h'
   ·rw [hfree j h']at hjd;cases hjd
  ·rcases Jp l (VY ts σ) j u (by unfold VY;rw [Cb];exact hlen) hj with⟨i,o,A,V,h3⟩|⟨A,V⟩
   ·unfold VY at h3
    rw [Dz]at h3
    cases hf:ts[i]? with
    |none=>rw [hf]at h3;simp at h3
    |some f=>
     rw [hf]at h3
     have e:f.at σ=u:=by simpa using h3
     rw [<-e]
     exact h.new i o j f (hL2 i o A) (hall i (o5.1 A).1) V hf
   ·refine h.old j u A fun i o ho hdn=>?_
    rcases lZ i l.length with h' |h'
    ·exact V o (sR (hL1 i o h' ho))
    ·rw [hfree i h']at hdn;cases hdn
 have lower: ∀done a w S σ c i,(∀j,l.length<=j->done.getD j false=false)->Yl E G (l++t) ts Ss es done a w S σ c->i∈Region.ready .any (l++t).toArray done->l.length<=i-> ∀j,j<l.length->done.getD j false=true:=by
  intro done a w S σ c i hfree h hi hge j hj
  obtain⟨hun,p,hp,hwait⟩:=um.1 hi
  have hp' :(l++t)[i]? =some p:=by simpa using hp
  have hcov:=(htail i p hge hp').1
  unfold xo at hcov
  have hre:=mZ.1 hcov j (by simp;omega)
  exact hY h.down _ i j (fun q hq e he H=>by
   have:q=p:=by rw [hp']at hq;simpa using hq.symm
   subst this
   exact hwait e he H) hre
 have hchain: ∀i j,j<i->es[i]? =some true->es[j]? =some true->nN (l++t) (l++t).length i j=true:=fun i j hij A V=>by
  unfold PE at hch
  have hil:i<es.length:=(o5.1 A).1
  have:=mZ.1 (mZ.1 hch i (by simpa using hil)) j (by simpa using hij)
  rw [A,V]at this
  simpa using this
 intro fuel
 induction fuel with
 |zero=>
  intro done a w S σ c hu hfree hcle h
  exact fin 0 done a w S σ c hu hfree hcle h fun i hi=>va hu (by rw [h.dsz,gA];omega)
 |succ fuel ih=>
  intro done a w S σ c hu hfree hcle h
  by_cases hall: ∀i,i<l.length->done.getD i false=true
  ·exact fin _ done a w S σ c hu hfree hcle h hall
  have hready0: ∀m i,i<m->i<l.length->Region.ready .any (l++t).toArray done=[]->done.getD i false=true:=by
   intro m
   induction m with
   |zero=>intro i h;omega
   |succ m ihm=>
    intro i him hil hr
    have his:i<done.size:=by rw [h.dsz,gA];omega
    by_cases hdn:done.getD i true=true
    ·rw [<-oN his];exact hdn
    ·exfalso
     obtain⟨o,ho⟩: ∃o,(l++t)[i]? =some o:=⟨l[i],hL2 i _ (qf hil)⟩
     have hmem:i∈Region.ready .any (l++t).toArray done:=by
      rw [um]
      refine⟨by simpa using hdn,o,by simpa using ho,fun e he H=>?_⟩
      have:=hedge i o ho
      unfold fK at this
      have:=mZ.1 this e (by simpa using he)
      simp only [H,qg,An,sr]at this
      exact ihm e.on (by omega) (by omega) hr
     rw [hr]at hmem;cases hmem
  refine⟨fun hr=>absurd (fun i hi=>hready0 (i+1) i (by omega) hi hr) hall,fun i hi=>?_⟩
  have hil:i<l.length:=by
   rcases lZ i l.length with h' |h'
   ·exact h'
   ·exact absurd (lower done a w S σ c i hfree h hi h') hall
  obtain⟨hun,o,ho,hwait⟩:=um.1 hi
  have ho' :(l++t)[i]? =some o:=by simpa using ho
  have hol:=hL1 i o hil ho'
  obtain⟨e,he,needs,u,A,V,h3,_,h4,h5⟩:=hget i o hol
  rw [rj]at A h3 h4
  have hF:=h.need ho' hun hwait V h3
  have his:i<done.size:=by rw [h.dsz,gA];omega
  have hun' :done.getD i false=false:=by rw [<-oN his];exact hun
  have hu' :lK (done.setIfInBounds i true)=fuel:=by have:=rr hun;omega
  have huq: ∀aN,o.dst=some aN-> ∀j p,(l++t)[j]? =some p->done.getD j false=true->p.dst=some aN->i=j:=fun aN hdd j p hj hjd hpd=>by
   rcases lZ j l.length with h' |h'
   ·exact hs2 i j o p aN hol (hL1 j p h' hj) hdd hpd
   ·rw [hfree j h']at hjd;cases hjd
  have hfree' : ∀j,l.length<=j->(done.setIfInBounds i true).getD j false=false:=fun j hj=>by
   rw [xE false (by omega)];exact hfree j hj
  have hbl:E.base<=w.heap.size:=h.ext.size
  have hwaits: ∀q,(l++t)[i]? =some q-> ∀e∈q.after,Region.binds .any e=true->done.getD e.on false=true:=fun q hq e he H=>by
   have:q=o:=by rw [ho']at hq;simpa using hq.symm
   subst this
   exact hwait e he H
  have hdpp: ∀k∈u.1,k=i\/done.getD k false=true:=fun k hk=>by
   have:=mZ.1 h4 k hk
   simp only [gQ,xY]at this
   rcases this.2 with H|H
   ·exact .inl (pF H)
   ·exact .inr (hY h.down _ i k hwaits H)
  have hdNN: ∀aN,o.dst=some aN->aN<E.N.n:=fun aN hd=>(hs1 o (sR hol) aN hd).1
  unfold wpOpIn
  rw [ho]
  show if _ then _ else _
  cases e with
  |false=>
   simp only at h5
   obtain⟨wX,lo,hi',hwin,h5⟩:=h5
   rw [rj]at hwin
   obtain⟨aN,hdd⟩:=Option.isSome_iff_exists.1 wX
   have hdN:=(hs1 o (sR hol) aN hdd).1
   unfold YA at hwin
   rw [gQ]at hwin
   obtain⟨hw1,hw2⟩:=hwin
   have hw1' :=rm hw1
   have hwk: ∀k,es[k]? =some true->(Nat.ble lo (ij es k)=true\/nN (l++t) (l++t).length i k=true)/\(Nat.blt (ij es k) hi' =true\/nN (l++t) (l++t).length k i=true):=fun k hk=>by
    have hkl:k<es.length:=(o5.1 hk).1
    have:=mZ.1 hw2 k (by simpa using hkl)
    rw [hk]at this
    simpa using this
   have hlo:lo<=c:=by
    rcases lZ c lo with hlt|hge
    ·exfalso
     obtain⟨k,hk1,hk2,hk3⟩:=xy (es:=es) (c:=c) (k:=es.length) (by omega)
     rcases(hwk k hk2).1 with H|H
     ·have:=rm H;omega
     ·have:=(h.chain k hk2).1 (hY h.down _ i k hwaits H)
      omega
    ·exact hge
   have hhi:c<=hi' :=by
    rcases lZ hi' c with hlt|hge
    ·exfalso
     obtain⟨k,hk1,hk2,hk3⟩:=xy (es:=es) (c:=hi') (k:=es.length) (by omega)
     rcases(hwk k hk2).2 with H|H
     ·simp only [sr]at H;omega
     ·have hkd:done.getD k false=true:=(h.chain k hk2).2 (by omega)
      have:=hY h.down _ k i (fun q hq e he H=>h.down k q hq hkd e he H) H
      rw [this]at hun';cases hun'
    ·exact hge
   have h6:=h5 c σ hlo hhi a w S h.sat h.own hF
   have hch' : ∀k,es[k]? =some true->((done.setIfInBounds i true).getD k false=true↔ij es k<c):=fun k hk=>by
    have hne:i≠k:=fun e=>by subst e;rw [he]at hk;cases hk
    rw [xE false hne];exact h.chain k hk
   by_cases hw:Region.wanted o (yielded (l++t).toArray a.tmps)=true
   ·rw [bv hw]at h6 ⊢
    refine lv (fun a' w' ⟨v,S',ha,D,hs,hv⟩=>?_) h6
    subst ha
    exact ih _ _ _ S' _ c hu' hfree' hcle (h.step ho' hdNN huq hwait A hun hdpp D (fun _ H=>H.elim) hs (h.own.ext0 D) (fun _ _=>rfl) hv hch')
   ·rw [bm hw]at h6 ⊢
    exact⟨fun _ _=>trivial,ih _ _ _ S _ c hu' hfree' hcle (h.step ho' hdNN huq hwait A hun hdpp (kx.refl uc _ _) (fun _ H=>H.elim) h.sat h.own (fun _ _=>rfl) h6 hch')⟩
  |true=>
   simp only [rj]at h5
   -- it is the next one of the chain
   have hca:ij es i=c:=by
    have hn: ¬ij es i<c:=fun hlt=>by rw [(h.chain i he).2 hlt]at hun';cases hun'
    rcases lZ c (ij es i)with hlt|hge
    ·exfalso
     obtain⟨k,hk1,hk2,hk3⟩:=xy hlt
     have hkd:done.getD k false=true:=hY h.down _ i k hwaits (hchain i k hk1 he hk2)
     have:=(h.chain k hk2).1 hkd
     omega
    ·omega
   subst hca
   have h6:=h5 σ a w S h.sat h.own hF hbl
   have hch' : ∀k,es[k]? =some true->((done.setIfInBounds i true).getD k false=true↔ij es k<ij es i+1):=fun k hk=>by
    by_cases hik:i=k
    ·subst hik
     constructor
     ·intro _;omega
     ·intro _;simp [his]
    ·rw [xE false hik,h.chain k hk]
     constructor
     ·intro h;omega
     ·intro hlt
      rcases lZ i k with hlk|hlk
      ·have:=H7 hlk he;omega
      ·exact H7 (by omega) hk
   have hcle' :ij es i+1<=ij es es.length:=H7 (by omega) he
   by_cases hw:Region.wanted o (yielded (l++t).toArray a.tmps)=true
   ·rw [bv hw]at h6 ⊢
    refine lv (fun a' w' ⟨v,S',x,ha,D,hs,hown,hv⟩=>?_) h6
    subst ha
    exact ih _ _ _ S' _ _ hu' hfree' hcle' (h.step ho' hdNN huq hwait A hun hdpp D (fun b ⟨f,hf,H⟩=>(du.mem h.own f hf).2 b H) hs hown (fun k hk=>J7 σ x hk) hv hch')
   ·rw [bm hw]at h6 ⊢
    obtain⟨x,hown,hv⟩:=h6
    exact⟨fun _ _=>trivial,ih _ _ _ S _ _ hu' hfree' hcle' (h.step ho' hdNN huq hwait A hun hdpp (kx.refl uc _ _) (fun _ H=>H.elim) h.sat hown (fun k hk=>J7 σ x hk) hv hch')⟩
variable{O:List OE}
def fY{id:Nat}(m:Nat)(ts:List TS)(es:List Bool)(Ss:List ((Nat->OI)->List OE))(hO:Ss[0]? =some fun _=>O)(hm:E.P.follows .mixedOrders=true)(hsl:yI E.N.n [] (L.take m)=true)(hlen:ts.length=(L.take m).length)(hesl:es.length=(L.take m).length)(hch:PE L es=true)(M:AH L (L.take m).length (L.drop m).length=true)(hd:DS E G L ts Ss es 0 0 (L.take m) es)(k: ∀σ:Nat->OI,RG E L.toArray af (L.drop m) (TA Ss (ij es es.length) σ) (L9 (L.take m) (VY ts σ) G)):CG E af (.region id L.toArray true) O G:=fun a w S st=>by
 have hL:L=L.take m++L.drop m:=(ra m L).symm
 generalize L.take m=l at hL hsl hlen hesl M hd k
 generalize L.drop m=t at hL M k
 subst hL
 refine wpIn_region_any hm ?_
 obtain⟨he,hs⟩:=Dv (w:=w) st.sat
 have hO0:TA Ss 0 (fun _=>oA)=O:=by unfold TA;rw [hO]
 refine Lw hsl hlen hesl hd hch M (fun a w S σ st=>k σ a w S st) _ _ _ _ S (fun _=>oA) 0 ?_ (fun j _=>?_) (jv _)
  ⟨st.ext.step0 he,hs,by rw [hO0];exact st.own.ext0 he,st.facts.size,st.facts.defers,by simp,fun j o hj hdone=>?_,fun k t hk _=>st.facts.at_ k t hk,fun j o aN t hj hdone=>?_,fun j p hdone=>?_,fun k _=>⟨fun hdone=>?_,fun h=>(by omega)⟩⟩
 ·unfold lK;rw [Qe,PY];simp
 ·simp [Ba];split<;>rfl
 ·simp [Ba]at hdone
  split at hdone<;>simp at hdone
 ·simp [Ba]at hdone
  split at hdone<;>simp at hdone
 ·simp [Ba]at hdone
  split at hdone<;>simp at hdone
 ·simp [Ba]at hdone
  split at hdone<;>simp at hdone
def dX{p:Nat->(Nat->OI)->Prop}{lo:Nat}(h: ∀σ,p lo σ): ∀c σ,lo<=c->c<=lo->p c σ:=fun c σ A V=>by
 have:c=lo:=by omega
 subst this;exact h σ
def rq{p:Nat->(Nat->OI)->Prop}{lo hi:Nat}(h: ∀σ,p lo σ)(k: ∀c σ,lo+1<=c->c<=hi->p c σ): ∀c σ,lo<=c->c<=hi->p c σ:=fun c σ A V=>by
 by_cases e:c=lo
 ·subst e;exact h σ
 ·exact k c σ (by omega) V
variable{after:Array Edge}{g:Option (Nat×Bool)}{ok:α->Prop}{op:Op}{pos:String}{post:OI->List OE}
def C9{ty:TypeId}(hnd: ∀c,op≠ .defer c)(h: ∀a w S,lV w S->du E.base E.B w S O->de E.N S a G->E.base<=w.heap.size-> ∃w' S' x,(execOp a.eval ⟨none,op,ty,pos,after,g⟩).run E.P w= .ok .skip w' /\kx (NA O) w S w' S' /\lV w' S' /\du E.base E.B w' S' (post x)):
  EffOK E O G ⟨none,op,ty,pos,after,g⟩ post (fun _=>tw):=fun a w S hs ho hf H=>by
 obtain⟨w',S',x,A,V,h3,h4⟩:=h a w S hs ho hf H
 refine⟨hnd,?_⟩
 rw [A]
 exact⟨undef,S',x,rfl,V,h3,h4,trivial⟩

abbrev HL:=List (Nat×Value)
def CV:HL->Nat->Option Value
 |[],_=>none
 |p::hs,o=>bif Nat.beq p.1 o then some p.2 else CV hs o
def wp: ∀{hs:HL} {o:Nat} {v:Value},CV hs o=some v->(o,v)∈hs
 |[],_,_,h=>by cases h
 |p::hs,o,v,h=>by
  unfold CV at h
  by_cases H:Nat.beq p.1 o=true
  ·rw [H]at h
   have e1:=pF H
   have e2:p.2=v:=nR h
   subst e1 e2
   exact lg ..
  ·rw [Dy]at H
   rw [H]at h
   exact li _ (wp h)
def rH{α:Type}(r:Rp α)(hs:HL):Rp α where
 sz:=r.sz
 agg:=r.agg
 rc:=fun S cs x=>r.rc S cs x/\ ∀p∈hs,cs[p.1]? =some p.2
 mono:=fun h k=>⟨r.mono h k.1,k.2⟩
 len:=fun k=>r.len k.1
 one:=fun k=>r.one k.1
 sc:=r.sc
variable{cs:List Value}{off:Nat}
def tM{hs:HL}{get:α->β}(h:ju r off q get):ju (rH r hs) off q get:=fun S cs x k=>h S cs x k.1
def S3(h:cs[off]? =some v):(cs.drop off).take 1=[v]:=by
 have hlt:=(o5.1 h).1
 rw [rn hlt,(o5.1 h).2]
 rfl
def acF{hs:HL}(h:CV hs off=some v):ju (rH r hs) off rV (fun _=>v):=fun S cs x k=>by
 have A:=k.2 _ (wp h)
 exact⟨S3 A,r.one k.1 v (sR A)⟩
def HZ(z:List Value):HL->Prop
 |[]=>True
 |p::hs=>z[p.1]? =some p.2/\HZ z hs
variable{z:List Value}
def HZ.all: ∀{hs:HL},HZ z hs-> ∀p∈hs,z[p.1]? =some p.2
 |_::_,⟨h,_⟩,_,.head _=>h
 |_::_,⟨_,h⟩,_,.tail _ hm=>HZ.all h _ hm
def zH{x:α}{hs:HL}(h: ∀S,r.rc S z x)(k:HZ z hs): ∀S,(rH r hs).rc S z x:=fun S=>⟨h S,k.all⟩
def YY(hs:HL)(off sz:Nat):Bool:=hs.all fun p=>Nat.blt p.1 off||Nat.ble (off+sz) p.1
def HOK(hs:HL)(off sz:Nat)(v:Option Value):HL->Prop
 |[]=>True
 |p::l=>((v=some p.2/\p.1=off/\sz=1)\/(CV hs p.1=some p.2/\(Nat.blt p.1 off||Nat.ble (off+sz) p.1)=true))/\HOK hs off sz v l
variable{sz:Nat}
def HOK.all{hs:HL}{v:Option Value}: ∀{l:HL},HOK hs off sz v l-> ∀p∈l,(v=some p.2/\p.1=off/\sz=1)\/(CV hs p.1=some p.2/\(Nat.blt p.1 off||Nat.ble (off+sz) p.1)=true)
 |_::_,⟨h,_⟩,_,.head _=>h
 |_::_,⟨_,h⟩,_,.tail _ hm=>HOK.all h _ hm
def zt{ds:List Value}{k:Nat}(hl:ds.length=sz)(hoff:off+sz<=cs.length)(h:(Nat.blt k off||Nat.ble (off+sz) k)=true):(cs.take off++ds++cs.drop (off+sz))[k]? =cs[k]? :=by
 simp only [xY,sr,Nat.ble_eq]at h
 have M:(cs.take off).length=off:=by simp;omega
 rcases h with h|h
 ·rw [Cf (by simp;omega),Cf (by omega),DA h]
 ·rw [vZ (by simp;omega),wz]
  congr 1
  simp only [gA,M,hl];omega
def Vz{ds:List Value}(hd:ds=[v])(hoff:off+1<=cs.length):(cs.take off++ds++cs.drop (off+1))[off]? =some v:=by
 subst hd
 have M:(cs.take off).length=off:=by simp;omega
 rw [Cf (by simp;omega),vZ (by omega),M,EL]
 rfl
variable{set:α->β->α}{y:α}
def AJ{hs hs' :HL}{x:α}{y:β}(h:fm r off q set)(hk:HOK hs off q.sz none hs')(hoff:Nat.ble (off+q.sz) r.sz=true):pw (rH r hs) (rH r hs') off q x y (set x y):=fun S cs ds A V=>by
 refine⟨h S cs x ds y A.1 V,fun p hp=>?_⟩
 rcases hk.all p hp with⟨e,_⟩|⟨g1,g2⟩
 ·cases e
 ·have hl:=r.len A.1
  rw [zt (q.len V) (by have:=rm hoff;omega) g2]
  exact A.2 _ (wp g1)
def LJ{hs:HL}(h:fm r off q set)(hk:YY hs off q.sz=true)(hoff:Nat.ble (off+q.sz) r.sz=true):fm (rH r hs) off q set:=fun S cs x ds y A V=>by
 refine⟨h S cs x ds y A.1 V,fun p hp=>?_⟩
 have hl:=r.len A.1
 rw [zt (q.len V) (by have:=rm hoff;omega) (mZ.1 hk p hp)]
 exact A.2 _ hp
variable{T U:TypeId}{h2:MV β}{agg:Bool}{bytes cap:Nat}{dst:Option Tmp}{ops:Array Oper}{r' :Rp α}{rest:List Oper}{xs:List α}{γ:β->Ty}
section
variable{e:Exit}
section
variable{ty:TypeId}
def jl{t:OI->Ty}(h:EffOK E O G ⟨none,op,ty,pos,after,none⟩ post t)(k: ∀x,RG E ops af rest (post x) G):RG E ops af (⟨none,op,ty,pos,after,none⟩::rest) O G:= .of rfl fun a w S st=>
 oK (fun a' w' ⟨v,S',x,ha,D,hs,ho,hv⟩=>by
  subst ha
  exact k x _ _ S' ⟨st.ext.step D fun b ⟨f,hf,H⟩=>(du.mem st.own f hf).2 b H,hs,ho,st.facts.mono D.keep⟩) (h a w S st.sat st.own st.facts st.base_le)
def em{γ:Type}{r' :Rp γ}{x:α}{x' :γ}{y:β}{v:Operand}(ti:TI E.P U sz bytes agg z)(hsz:q.sz=sz)(hset:pw r r' off q x y x')(hoff:Nat.ble (off+q.sz) r.sz=true)(hp:aL E.N G p (Z (al b off)))(hv:aL E.N G v (K q y)):EffOK E (bx r T b x::O) G ⟨none,.store U p v,ty,pos,after,g⟩ (fun _=>bx r' T b x' ::O) (fun _=>tw):=C9 (fun _ h=>(by cases h)) fun a w S hs ho hf H=>by
 have A:a.eval p=al b off:=hp S a hf
 obtain⟨ds,V,h3⟩:=hv S a hf
 obtain⟨⟨hno,cur,h5,h6⟩,_⟩:=ho.1
 have hl:=r.len h6
 have hoff' :=rm hoff
 obtain⟨w',hr,e1,e2,e3,e4,e5,e6⟩:=iD ti hsz h3 h5 (off:=off) (by simp at hl;omega)
 have hrun:(execOp a.eval ⟨none,.store U p v,ty,pos,after,g⟩).run E.P w= .ok .skip w' :=by
  simp [execOp,A,V,Instr.storeAt,al,Instr.sureAddr,hr]
 obtain⟨g1,g2,g3⟩:=ll (O:=O) hs (bx r T b x) (bx r' T b x') ho (fun _=>ul) (fun _=>ul) ⟨e1,e2,e3,e4.1,e4.2⟩ e6 ⟨hno,_,e5,by simpa using hset S _ _ h6 h3⟩ hno
 exact⟨w',S,oA,hrun,g1.more fun k hk=>⟨_,lg ..,hk⟩,g2,g3⟩
def nk{hs hs' :HL}{x:α}{y:β}{v:Operand}(ti:TI E.P U 1 bytes false z)(hsz:q.sz=1)(hag:q.agg=false)(hset:fm r off q set)(hoff:Nat.ble (off+1) r.sz=true)(hk:HOK hs off 1 (some u) hs')(hp:aL E.N G p (Z (al b off)))(hv:aL E.N G v (K q y))(hu:aL E.N G v (Z u)):EffOK E (bx (rH r hs) T b x::O) G ⟨none,.store U p v,ty,pos,after,g⟩ (fun _=>bx (rH r hs') T b (set x y)::O) (fun _=>tw):=C9 (fun _ h=>(by cases h)) fun a w S hsat ho hf H=>by
 have A:a.eval p=al b off:=hp S a hf
 obtain⟨ds,V,h3⟩:=hv S a hf
 have hu' :a.eval v=u:=hu S a hf
 obtain⟨⟨hno,cur,h5,h6⟩,_⟩:=ho.1
 have hl:=r.len h6.1
 have hoff' :=rm hoff
 have hdl:=q.len h3
 have hds:ds=[u]:=by
  obtain⟨aN,hd⟩:=List.length_eq_one_iff.1 (by rw [hdl,hsz]:ds.length=1)
  subst hd
  have e1:q.val [aN]=aN:=by simp [Rp.val,hag]
  rw [V,e1]at hu'
  rw [hu']
 obtain⟨w',hr,e1,e2,e3,e4,e5,e6⟩:=iD ti hsz h3 h5 (off:=off) (by simp at hl;omega)
 have hrun:(execOp a.eval ⟨none,.store U p v,ty,pos,after,g⟩).run E.P w= .ok .skip w' :=by
  simp [execOp,A,V,Instr.storeAt,al,Instr.sureAddr,hr]
 rw [hsz]at e5
 have hnew:(rH r hs').rc S (cur.toList.take off++ds++cur.toList.drop (off+1)) (set x y):=by
  have h7:=hset S _ _ _ _ h6.1 h3
  rw [hsz]at h7
  refine⟨h7,fun p hp=>?_⟩
  rcases hk.all p hp with⟨f1,f2,_⟩|⟨f1,f2⟩
  ·rw [f2]
   exact Vz (by rw [hds,nR f1]) (by omega)
  ·rw [zt (by rw [hdl,hsz]) (by omega) f2]
   exact h6.2 _ (wp f1)
 obtain⟨g1,g2,g3⟩:=ll (O:=O) hsat (bx (rH r hs) T b x) (bx (rH r hs') T b (set x y)) ho (fun _=>ul) (fun _=>ul) ⟨e1,e2,e3,e4.1,e4.2⟩ e6 ⟨hno,_,e5,by simpa using hnew⟩ hno
 exact⟨w',S,oA,hrun,g1.more fun k hk=>⟨_,lg ..,hk⟩,g2,g3⟩
end
section
variable{ty:TypeId}
def po{hs:HL}{x:α}(ti:TI E.P U 1 bytes false z)(hk:CV hs off=some u)(hm:bx (rH r hs) T b x∈O)(hp:aL E.N G p (Z (al b off))):
  ce E O G ⟨dst,.load U p,ty,pos,after,g⟩ (Z u):=(bn (q:=rV) ti rfl rfl (acF hk) hm hp).imp fun _ _ h=>(zK.1 h).1
def fU{q:Rp α}{r:Rp β}{hs:HL}{x:β}{h2:TypeId}{l:Option Nat}(ti:TI E.P U 1 bytes false z)(hk:CV hs off=some (Y l cap xs.length))(hm:bx (rH r hs) T b x∈O)(hm2:d q h2 l cap xs∈O)(hp:aL E.N G p (Z (al b off))):
  ce E O G ⟨dst,.load U p,ty,pos,after,g⟩ (tO q l cap xs):=fun a w S hs' ho hf=>
 oK (fun _ _ ⟨v,S',A,V,h3,h4⟩=>⟨v,S',A,V,h3,h4,by
  have h5:v=Y l cap xs.length:=h4
  rw [h5]
  exact mq (((ho.ext0 V).mem _ hm2).1)⟩) (po (g:=g) (ty:=ty) (pos:=pos) (after:=after) (dst:=dst) ti hk hm hp a w S hs' ho hf)
def WC{t:Ty}(A: ∀S v,t.p S v->v.oneCell' =true)(D:aL E.N G x t):ce E O G ⟨dst,.box T x,ty,pos,after,g⟩ (bt (rT t) ()):=
 OF (fun S a hf=>tRT.2 ⟨A _ _ (D S a hf),D S a hf⟩)
end
def Wm:HL->HL->Prop
 |[],_=>True
 |p::l,hs=>CV hs p.1=some p.2/\Wm l hs
def Wm.all{hs:HL}: ∀{l:HL},Wm l hs-> ∀p∈l,p∈hs
 |_::_,⟨h,_⟩,_,.head _=>wp h
 |_::_,⟨_,h⟩,_,.tail _ hm=>Wm.all h _ hm
end

variable{B:Nat->Prop}{base:Nat}{x0 x1 x10 x11 x12 x13 x2 x3 x4 x5 x6 x7 x8 x9:OE}
def zC(h:du base B w S (x0::x1::x2::x3::x4::x5::x6::x7::x8::x9::x10::x11::x12::x13::O)):du base B w S (x13::x0::x1::x2::x3::x4::x5::x6::x7::x8::x9::x10::x11::x12::O):=
 (mR h zD (fun f hf=>by simp only [f7]at hf ⊢;rcases hf with h|h|h|h|h|h|h|h|h|h|h|h|h|h<;>simp [h])).swap
def Id(h:RG E ops af rest (x13::x0::x1::x2::x3::x4::x5::x6::x7::x8::x9::x10::x11::x12::O) G):RG E ops af rest (x0::x1::x2::x3::x4::x5::x6::x7::x8::x9::x10::x11::x12::x13::O) G:=fun a w S st=>h a w S (st.own_map zC)
def PU{e:Exit}(h:AT E af e (x13::x0::x1::x2::x3::x4::x5::x6::x7::x8::x9::x10::x11::x12::O) G):AT E af e (x0::x1::x2::x3::x4::x5::x6::x7::x8::x9::x10::x11::x12::x13::O) G:=fun a w S st=>h a w S (st.own_map zC)
def Nm{x14:OE}(h:du base B w S (x0::x1::x2::x3::x4::x5::x6::x7::x8::x9::x10::x11::x12::x13::x14::O)):du base B w S (x14::x0::x1::x2::x3::x4::x5::x6::x7::x8::x9::x10::x11::x12::x13::O):=
 (mR h zC (fun f hf=>by simp only [f7]at hf ⊢;rcases hf with h|h|h|h|h|h|h|h|h|h|h|h|h|h|h<;>simp [h])).swap
def PT{e:Exit}{x14:OE}(h:AT E af e (x14::x0::x1::x2::x3::x4::x5::x6::x7::x8::x9::x10::x11::x12::x13::O) G):AT E af e (x0::x1::x2::x3::x4::x5::x6::x7::x8::x9::x10::x11::x12::x13::x14::O) G:=fun a w S st=>h a w S (st.own_map Nm)
variable{O' :List OE}
def EffOK.perm{t:OI->Ty}(h:EffOK E O' G o post t)(k: ∀{w S},du E.base E.B w S O->du E.base E.B w S O')(m: ∀f∈O',f∈O):EffOK E O G o post t:=fun a w S hs ho hf H=>
 oK (fun _ _ ⟨v,S',x,A,V,h3,h4,h5⟩=>⟨v,S',x,A,V.more fun _ ⟨f,hf,hk⟩=>⟨f,m f hf,hk⟩,h3,h4,h5⟩) (h a w S hs (k ho) hf H)
namespace EffOK
section
variable{t:OI->Ty}
def fr1(h:EffOK E (x1::x0::O) G o post t):EffOK E (x0::x1::O) G o post t:=h.perm (fun hw=>du.swap hw) (fun f hf=>by simp only [f7]at hf ⊢;rcases hf with h|h|h<;>simp [h])
def fr2(h:EffOK E (x2::x0::x1::O) G o post t):EffOK E (x0::x1::x2::O) G o post t:=h.perm (fun hw=>rO hw) (fun f hf=>by simp only [f7]at hf ⊢;rcases hf with h|h|h|h<;>simp [h])
def fr3(h:EffOK E (x3::x0::x1::x2::O) G o post t):EffOK E (x0::x1::x2::x3::O) G o post t:=h.perm (fun hw=>uX hw) (fun f hf=>by simp only [f7]at hf ⊢;rcases hf with h|h|h|h|h<;>simp [h])
def fr4(h:EffOK E (x4::x0::x1::x2::x3::O) G o post t):EffOK E (x0::x1::x2::x3::x4::O) G o post t:=h.perm (fun hw=>uW hw) (fun f hf=>by simp only [f7]at hf ⊢;rcases hf with h|h|h|h|h|h<;>simp [h])
def fr5(h:EffOK E (x5::x0::x1::x2::x3::x4::O) G o post t):EffOK E (x0::x1::x2::x3::x4::x5::O) G o post t:=h.perm (fun hw=>uV hw) (fun f hf=>by simp only [f7]at hf ⊢;rcases hf with h|h|h|h|h|h|h<;>simp [h])
def fr6(h:EffOK E (x6::x0::x1::x2::x3::x4::x5::O) G o post t):EffOK E (x0::x1::x2::x3::x4::x5::x6::O) G o post t:=h.perm (fun hw=>rN hw) (fun f hf=>by simp only [f7]at hf ⊢;rcases hf with h|h|h|h|h|h|h|h<;>simp [h])
def fr7(h:EffOK E (x7::x0::x1::x2::x3::x4::x5::x6::O) G o post t):EffOK E (x0::x1::x2::x3::x4::x5::x6::x7::O) G o post t:=h.perm (fun hw=>BV hw) (fun f hf=>by simp only [f7]at hf ⊢;rcases hf with h|h|h|h|h|h|h|h|h<;>simp [h])
def fr8(h:EffOK E (x8::x0::x1::x2::x3::x4::x5::x6::x7::O) G o post t):EffOK E (x0::x1::x2::x3::x4::x5::x6::x7::x8::O) G o post t:=h.perm (fun hw=>xB hw) (fun f hf=>by simp only [f7]at hf ⊢;rcases hf with h|h|h|h|h|h|h|h|h|h<;>simp [h])
def fr9(h:EffOK E (x9::x0::x1::x2::x3::x4::x5::x6::x7::x8::O) G o post t):EffOK E (x0::x1::x2::x3::x4::x5::x6::x7::x8::x9::O) G o post t:=h.perm (fun hw=>xA hw) (fun f hf=>by simp only [f7]at hf ⊢;rcases hf with h|h|h|h|h|h|h|h|h|h|h<;>simp [h])
def fr10(h:EffOK E (x10::x0::x1::x2::x3::x4::x5::x6::x7::x8::x9::O) G o post t):EffOK E (x0::x1::x2::x3::x4::x5::x6::x7::x8::x9::x10::O) G o post t:=h.perm (fun hw=>sK hw) (fun f hf=>by simp only [f7]at hf ⊢;rcases hf with h|h|h|h|h|h|h|h|h|h|h|h<;>simp [h])
def fr11(h:EffOK E (x11::x0::x1::x2::x3::x4::x5::x6::x7::x8::x9::x10::O) G o post t):EffOK E (x0::x1::x2::x3::x4::x5::x6::x7::x8::x9::x10::x11::O) G o post t:=h.perm (fun hw=>sJ hw) (fun f hf=>by simp only [f7]at hf ⊢;rcases hf with h|h|h|h|h|h|h|h|h|h|h|h|h<;>simp [h])
def post_imp{post' :OI->List OE}(h:EffOK E O G o post t)(k: ∀{w S x},du E.base E.B w S (post x)->du E.base E.B w S (post' x)):EffOK E O G o post' t:=fun a w S hs ho hf H=>
 oK (fun _ _ ⟨v,S',x,A,V,h3,h4,h5⟩=>⟨v,S',x,A,V,h3,k h4,h5⟩) (h a w S hs ho hf H)
end
end EffOK
variable{P:Program}{cells:List Value}{mm:Bool}{ys zs:List α}
section
variable{ty:TypeId}
def rK{l:Option Nat}{foff:Nat}{v:β}{i:Int}(ti:TI E.P T sz bytes agg z)(hsz:q.sz=sz)(hset:fm r foff q set)(hoff:Nat.ble (foff+q.sz) r.sz=true)(hy:ep xs i=some y)(hz:xs.set i.toNat (set y v)=zs)(hp:aL E.N G p (Z (bh l (i.toNat*r.sz+foff))))(D:aL E.N G x (K q v)):EffOK E (dv r U l cap xs::O) G ⟨none,.store T p x,ty,pos,after,g⟩ (fun _=>dv r U l cap zs::O) (fun _=>tw):=C9 (fun _ h=>(by cases h)) fun a w S hsat hown hf hbase=>by
 subst hz
 have A:a.eval p=bh l (i.toNat*r.sz+foff):=hp S a hf
 obtain⟨ds,V,h3⟩:=D S a hf
 obtain⟨h0,hy'⟩:=eM hy
 have hlt:i.toNat<xs.length:=(o5.1 hy').1
 obtain⟨cells,hraw,hrc,hno⟩:=hown.1.1
 obtain⟨b,cur,rfl,H,hle,hcs,h6⟩:=nE hown.1.1 hy'
 obtain⟨cur',hb',hle',hmax,hcs',hct⟩:=hraw
 have hcc:cur' =cur:=by rw [H]at hb';injection hb' with e;injection e with e1;exact e1.symm
 subst hcc
 have hno' :S b=none:=hno b rfl
 have hoff' :=rm hoff
 have hl3:=q.len h3
 have hmul:i.toNat*r.sz+r.sz<=xs.length*r.sz:=by rw [<-EG];exact ya _ hlt
 have hmul2:xs.length*r.sz<=cur'.size:=by rw [hcs];exact ya _ hle
 obtain⟨w',hr,e1,e2,e3,e4,e5,e6⟩:=iD ti hsz h3 H (off:=i.toNat*r.sz+foff) (by omega)
 have hrun:(execOp a.eval ⟨none,.store T p x,ty,pos,after,g⟩).run E.P w= .ok .skip w' :=by
  simp [execOp,A,V,Instr.storeAt,bh,al,Instr.sureAddr,hr]
 have hnew:=hset S _ _ _ _ h6 h3
 have hrc' :=wP hnew hrc hlt
 have hcl:=lx hrc
 have hcells:(cur'.toList.take (i.toNat*r.sz+foff)++ds++cur'.toList.drop (i.toNat*r.sz+foff+q.sz)).take (xs.length*r.sz)=
   cells.take (i.toNat*r.sz)++(((cur'.toList.drop (i.toNat*r.sz)).take r.sz).take foff++ds++((cur'.toList.drop (i.toNat*r.sz)).take r.sz).drop (foff+q.sz))++cells.drop (i.toNat*r.sz+r.sz):=by
  subst hct
  apply Ga
  intro j
  simp only [List.getElem?_take,List.getElem?_append,wz,ym,Fn,gA,Fo]
  rcases lZ j (xs.length*r.sz)with hj|hj
  ·simp only [hj,i8]
   rcases lZ j (i.toNat*r.sz)with hj1|hj1
   ·rw [bv (by omega),bv (by omega),bv (by omega),bv (by omega),bv (by omega),bv (by omega)]
   ·rcases lZ j (i.toNat*r.sz+foff)with hj2|hj2
    ·rw [bv (by omega),bv (by omega),bv (by omega),bv (by omega),bm (by omega),bv (by omega),bv (by omega),bv (by omega),bv (by omega)]
     congr 1;omega
    ·rcases lZ j (i.toNat*r.sz+foff+q.sz)with hj3|hj3
     ·rw [bv (by omega),bm (by omega),bv (by omega),bm (by omega),bv (by omega),bm (by omega)]
      congr 1;omega
     ·rw [bm (by omega)]
      rcases lZ j (i.toNat*r.sz+r.sz)with hj4|hj4
      ·rw [bv (by omega),bm (by omega),bm (by omega),bv (by omega)]
       congr 1;omega
      ·rw [bm (by omega),bv (by omega)]
       congr 1;omega
  ·rw [bm (by omega),bm (by omega),bm (by omega)]
 obtain⟨g1,g2,g3⟩:=ll (O:=O) hsat (dv r U (some b) cap xs) (dv r U (some b) cap (xs.set i.toNat (set y v))) hown (fun k=>⟨fun h=>(nR h).symm,fun h=>by rw [h];rfl⟩) (fun k=>⟨fun h=>(nR h).symm,fun h=>by rw [h];rfl⟩) ⟨e1,e2,e3,e4.1,e4.2⟩ e6
  ⟨_,⟨_,e5,by rw [vW];exact hle,hmax,by simp only [EQ,gA,ym,Fn,Fo];omega,by rw [vW];exact hcells⟩,hrc',fun k hk=>by rw [<-nR hk];exact hno'⟩ hno'
 exact⟨w',S,oA,hrun,g1.more fun c hc=>⟨_,lg ..,by rw [hc];rfl⟩,g2,g3⟩
def Ps{v:α}{i:Int}(ti:TI E.P U sz bytes agg z)(hsz:r.sz=sz)(hy:ep xs i=some y)(hz:xs.set i.toNat v=zs)(hp:aL E.N G p (Z (al b (i.toNat*r.sz))))(hv:aL E.N G x (K r v)):EffOK E (bx (n7 r n) T b xs::O) G ⟨none,.store U p x,ty,pos,after,g⟩ (fun _=>bx (n7 r n) T b zs::O) (fun _=>tw):=C9 (fun _ h=>(by cases h)) fun a w S hsat hown hf hbase=>by
 subst hz
 have A:a.eval p=al b (i.toNat*r.sz):=hp S a hf
 obtain⟨ds,V,h3⟩:=hv S a hf
 obtain⟨⟨hno,cur,h5,h6⟩,_⟩:=hown.1
 obtain⟨h0,hy'⟩:=eM hy
 have hlt:i.toNat<xs.length:=(o5.1 hy').1
 have hl:=lx h6.2
 simp only [Fo]at hl
 have hmul:i.toNat*r.sz+r.sz<=xs.length*r.sz:=by rw [<-EG];exact ya _ hlt
 obtain⟨w',hr,e1,e2,e3,e4,e5,e6⟩:=iD ti hsz h3 h5 (off:=i.toNat*r.sz) (by omega)
 have hrun:(execOp a.eval ⟨none,.store U p x,ty,pos,after,g⟩).run E.P w= .ok .skip w' :=by
  simp [execOp,A,V,Instr.storeAt,al,Instr.sureAddr,hr]
 obtain⟨g1,g2,g3⟩:=ll (O:=O) hsat (bx (n7 r n) T b xs) (bx (n7 r n) T b (xs.set i.toNat v)) hown (fun _=>ul) (fun _=>ul) ⟨e1,e2,e3,e4.1,e4.2⟩ e6 ⟨hno,_,e5,by rw [vW];exact h6.1,wP h3 h6.2 hlt⟩ hno
 exact⟨w',S,oA,hrun,g1.more fun c hc=>⟨_,lg ..,hc⟩,g2,g3⟩

section
def oT{x:α}(ti:TI E.P T sz bytes agg z)(D: ∀S,r.rc S z x):
  EffOK E O G ⟨some aN,.alloc T,ty,pos,after,g⟩ (fun i=>bx r T (i.h 0).2 x::O) (fun i=>Z (al (i.h 0).2 0)):=fun a w S hs ho hf H=>by
 obtain⟨zv,hzr,hzc⟩:=ti.zero w
 obtain⟨he,hs',hno⟩:=kL (w:=w) (.cells z.toArray T (0,0)) hs
 have hrun:(execOp a.eval ⟨some aN,.alloc T,ty,pos,after,g⟩).run E.P w= .ok (.value (al w.heap.size 0)) (w.alloc (.cells z.toArray T (0,0))):=by
  simp [execOp,Instr.alloc,hzr,newVar,newRow,hzc,al]
 refine⟨fun c h=>(by cases h),?_⟩
 rw [hrun]
 exact⟨_,S,oi none w.heap.size,rfl,he.more fun _ H=>H.elim,hs',tJ ho he (e:=bx r T w.heap.size x) ⟨hno,z.toArray,Az w _,by simpa using D S⟩ (fun b H=>EF H.symm) H,rfl⟩
def p8{xs:List Operand}{ats:Array TypeId}(hc:aj E.P f=true)(hs:lH E.P f ts false r T ys)(D:j3 E.N G xs ts):
  EffOK E O G ⟨some aN,.call ⟨.value (.func f),xs.toArray,ats⟩,ty,pos,after,g⟩ (fun i=>dv r T (i.h 0).1 (i.h 0).2 ys::O) (fun i=>Z (Y (i.h 0).1 (i.h 0).2 ys.length)):=SS (mm:=false) hc hs D (fun _ _ _ _ _=>rfl)
end
section
def aW{l:Option Nat}{o i:Nat}(hf:bp E.P T i=some (off,sz))(h0:Nat.beq sz 0=false)(hm:ku mm r U l cap xs∈O)(hy:ep xs j=some y)(hp:aL E.N G p (Z (bh l o)))(he:o+off=n):
  ce E O G ⟨dst,.fieldAddr T p i,ty,pos,after,g⟩ (Z (bh l n)):=by
 subst he
 exact vM hf h0 hm hy hp
def bZ(D:aL E.N G x (Z (al b off))):ce E O G ⟨dst,.nilCheck x,ty,pos,after,g⟩ (Z (al b off)):= .of_pure fun a w S _ _ hf=>by
 have A:a.eval x=al b off:=D S a hf
 exact⟨al b off,by simp [execOp,A,al],rfl⟩
def uG{t:Ty}(ti:TI E.P U 1 bytes false z)(hp:aL E.N G p (bt (rT t) ())):ce E O G ⟨dst,.load U p,ty,pos,after,g⟩ t:=pp ti hp
end
def jm(h:O=O')(k:RG E ops af rest O' G):RG E ops af rest O G:=by subst h;exact k
def hW(h:aL N G x (Z u))(ho:u.oneCell' =true):aL N G x (K rV u):=fun S a hf=>zK.2 ⟨h S a hf,ho⟩
def YZ{t:Ty}(A: ∀S v,t.p S v->v.oneCell' =true)(h:aL N G x t):aL N G x (K (rT t) ()):=fun S a hf=>tRT.2 ⟨A _ _ (h S a hf),h S a hf⟩
def Ku{args:α->List Ty}{res:β->Ty}{f:α->Option β}: ∀S v,(gZ P args res f).p S v->v.oneCell' =true:=fun _ _ ⟨_,_,e,_⟩=>by rw [e];rfl
end

def LD{l:Option Nat}{t' e' :TypeId}(M:P.underlying t' =some (.slice e'))(h:Ax mm r U l cap xs w S)(hs:dH xs lo (xs.length:Int)=some ys):
  ∃news,Src P r.sz t' (nS r.sz l cap lo.toNat ys.length) ys.length news w/\qc r S news ys:=by
 obtain⟨cells,A,V,_⟩:=h
 obtain⟨lo',m,rfl,hm,h3,h4,rfl⟩:=gT hs
 have hm' :m=xs.length:=by omega
 subst hm'
 rw [AA,wy]
 cases l with
 |none=>
  have D:xs=[]:=wA A.1
  subst D
  exact⟨[],by simpa [nS] using Src.ofNil w M 0,by simp [qc]⟩
 |some b=>
  obtain⟨cur,g1,g2,g3,g4,g5⟩:=A
  have hlen:(xs.drop lo').length=xs.length-lo' :=by simp
  have hcl:=lx V
  have hsp:xs=xs.take lo' ++xs.drop lo' :=(ra lo' xs).symm
  have htl:(xs.take lo').length=lo' :=by simp;omega
  have hr:qc r S (cells.drop (lo' *r.sz)) (xs.drop lo'):=by
   rw [hsp]at V
   have:=(pZ V).2
   rwa [htl]at this
  have hmul:lo' *r.sz<=xs.length*r.sz:=ya _ h3
  refine⟨cells.drop (lo' *r.sz),?_,hr⟩
  unfold nS
  refine Src.ofSlice w M _ _ _ _ (lx hr) (fun j u hu=>?_) (CH hr)
  by_cases hc:cap=lo'
  ·have:xs.drop lo' =[]:=o6 (by omega)
   rw [this]at hr
   have hr' :cells.drop (lo' *r.sz)=[]:=hr
   rw [hr']at hu;simp at hu
  ·simp only [hc,jB]
   rw [iU,Ad g1]
   rw [wz,<-g5]at hu
   have hj:lo' *r.sz+j<xs.length*r.sz:=by
    have:=(o5.1 hu).1
    simp at this;omega
   rw [DA hj]at hu
   simpa using hu
section
variable{ty:TypeId}
def Td{l:Option Nat}{yt:TypeId}(M:E.P.underlying t=some (.slice e))(hm:ku mm r U l cap xs∈O)(hs:dH xs lo (xs.length:Int)=some ys)(D:aL E.N G x (Z (nS r.sz l cap lo.toNat ys.length)))(hd:Nat.blt aN E.N.n=true)(k: ∀b,(b=true->ys=[])->RG E ops af rest O ((aN,K rB b)::G)):RG E ops af (⟨some aN,.binOp .eql t x (.const (.slice none 0 0)) yt,ty,pos,after,none⟩::rest) O G:= .of rfl fun a w S st=>by
 have A:a.eval x=nS r.sz l cap lo.toNat ys.length:=D S a st.facts
 obtain⟨⟨cells,hraw,_⟩,_⟩:=st.own.mem _ hm
 have hcn:a.eval (.const (.slice none 0 0))= .slice none 0 0:=rfl
 cases l with
 |none=>
  have hx0:xs=[]:=wA hraw.1
  have hy0:ys=[]:=by
   obtain⟨lo',m,_,_,_,_,rfl⟩:=gT hs
   subst hx0;simp
  have h3:(Op.equal t (.slice none 0 0) (.slice none 0 0)).run E.P w= .ok true w:=FR fun aN=>by
   simp [Op.equalIn,jx M]
  have hrun:(execOp a.eval ⟨some aN,.binOp .eql t x (.const (.slice none 0 0)) yt,ty,pos,after,none⟩).run E.P w= .ok (.value (.bool true)) w:=by
   simp [execOp,A,nS,hcn,eqGuard,binOp,h3]
  refine⟨fun c h=>(by cases h),?_⟩
  rw [hrun]
  exact k true (fun _=>hy0) _ _ S (st.step (kx.refl _ _ _) st.sat hd (jy.2 rfl))
 |some b=>
  obtain⟨ad,hv⟩: ∃ad,nS r.sz (some b) cap lo.toNat ys.length= .slice (some ad) ys.length (cap-lo.toNat):=⟨_,rfl⟩
  have h3:(Op.equal t (.slice (some ad) ys.length (cap-lo.toNat)) (.slice none 0 0)).run E.P w= .ok false w:=FR fun aN=>by
   simp [Op.equalIn,jx M]
  have hrun:(execOp a.eval ⟨some aN,.binOp .eql t x (.const (.slice none 0 0)) yt,ty,pos,after,none⟩).run E.P w= .ok (.value (.bool false)) w:=by
   simp [execOp,A,hv,hcn,eqGuard,binOp,h3]
  refine⟨fun c h=>(by cases h),?_⟩
  rw [hrun]
  exact k false (fun e=>(by cases e)) _ _ S (st.step (kx.refl _ _ _) st.sat hd (jy.2 rfl))
def PN{t' :TypeId}{l l2:Option Nat}{cap2:Nat}{us:List α}{y:Operand}(ti:TI E.P T sz bytes agg z)(hsz:r.sz=sz)(hz:Nat.beq z.length sz=true)(h0:Nat.blt 0 sz=true)(h128:Nat.ble bytes 2048=true)(M:E.P.underlying t=some (.slice T))(ht' :t' =t)(hd:Nat.blt aN E.N.n=true)(D:aL E.N G x (Z (Y l cap n)))(hm:ku mm r U l2 cap2 us∈dv r T l cap xs::O)(hs:dH us lo (us.length:Int)=some ys)(hy:aL E.N G y (Z (nS r.sz l2 cap2 lo.toNat ys.length)))(happ:lr xs ys=some zs)(k: ∀l' cap',RG E ops af rest (dv r T l' cap' zs::O) ((aN,Z (Y l' cap' zs.length))::G))(hn:n=xs.length:=by rfl):
  RG E ops af (⟨some aN,.call ⟨.builtin .append,#[x,y],#[t,t']⟩,ty,pos,after,none⟩::rest) (dv r T l cap xs::O) G:=by
 subst ht'
 exact BU (u:=fun cap' l' =>Z (Y l' cap' zs.length)) ti hsz hz h0 h128 M hd D (fun a w S st=>by
  have A:a.eval y=nS r.sz l2 cap2 lo.toNat ys.length:=hy S a st.facts
  rw [A]
  exact LD M (st.own.mem _ hm).1 hs) happ (fun _ _ _ _ _=>rfl) k hn
end

section
variable{args:α->List Ty}{it:It α}{fp:Nat->Prop}
end

section
variable{ty:TypeId}
end


def oiL(l:List (Option Nat×Nat)):OI:={h:=fun n=>l.getD n (none,0)}
def lX(P:Program){h1 X ρ:Type}(args:h1->List Ty)(Ob:X->OI->List OE)(res:ρ->Ty)(f:X->h1->Option (ρ×X)):Ty where
 p:=fun S v=> ∀x y R,f x y=some R-> ∃fid fst cap,v= .func (.func fid) fst cap/\aj P fid=true/\ ∀i w S' vs,qT S S' ->lV w S' ->Ay S' (args y) vs->du 0 uc w S' (Ob x i)->
  Calls P fid (fst++vs.toArray++cap) w fun en w' => ∃j v S'',en= .returned v/\(res R.1).p S'' v/\kx (NA (Ob x i)) w S' w' S'' /\lV w' S'' /\du 0 uc w' S'' (Ob R.2 j)/\ ∀k,NA (Ob R.2 j) k->NA (Ob x i) k\/w.heap.size<=k
 mono:=fun h k x y R hf=>by
  obtain⟨fid,fst,cap,e,hc,hs⟩:=k x y R hf
  exact⟨fid,fst,cap,e,hc,fun i w S' vs hle=>hs i w S' vs (SH.le_trans h hle)⟩
variable{O1:List OE}
section
section
variable{ty:TypeId}
end
def xn{h1 X ρ:Type}{args:h1->List Ty}{Ob:X->OI->List OE}{res:ρ->Ty}{f:X->h1->Option (ρ×X)}{x:X}{y:h1}{R:ρ×X}{i:OI}{ty:TypeId}{fo:Operand}{xs:List Operand}{ats:Array TypeId}(Or:List OE)(hO:O=Ob x i++Or)(hf:aL E.N G fo (lX E.P args Ob res f))(hR:f x y=some R)(D:j3 E.N G xs (args y))(hpost: ∀j,Ob R.2 j++Or=post j):
  EffOK E O G ⟨some aN,.call ⟨.value fo,xs.toArray,ats⟩,ty,pos,after,g⟩ post (fun _=>res R.1):=fun a w S hsat ho hF H=>by
 subst hO
 obtain rfl:(fun j=>Ob R.2 j++Or)=post:=funext hpost
 obtain⟨fid,fst,cap,e,hc,hs⟩:=hf S a hF x y R hR
 have hr:(execOp a.eval ⟨some aN,.call ⟨.value fo,xs.toArray,ats⟩,ty,pos,after,g⟩).run E.P w= .ok (.enter fid (fst++(xs.map a.eval).toArray++cap)) w:=by
  simp [execOp,resolve,e,Deferred.ofValue,invoke,jN hc]
 refine⟨fun c h=>(by cases h),?_⟩
 rw [hr]
 exact(hs i w S _ (SH.le_refl _) hsat (D.tys hF) (p9 ho).1.weak).mono fun en w' ⟨j,v,S',he,hv,A,V,h3,h4⟩=>⟨_,he,v,S',j,rfl,A.more fun b ⟨f,hf,H⟩=>⟨f,F4 _ hf,H⟩,V,du.turn ho H A h3 h4,hv⟩
def S8{t:Ty}{Ob:OI->List OE}{i:OI}(h:eJ P f ts O1 (fun _:OI=>t) (fun _=>Ob i)):eJ P f ts O1 (fun _:OI=>t) Ob:=fun w S vs hs hv ho=>
 (h w S vs hs hv ho).mono fun _ _ ⟨_,v,S',A,V,h3,h4,h5,h6⟩=>⟨i,v,S',A,V,h3,h4,h5,h6⟩
section
variable{N:Nat}{w0:World}{S0:SH}{fn:Func}{ι:Type}{t:ι->Ty}{O2:ι->List OE}
def jn{rvs:List ResultVar}(hr:fn.results=rvs.toArray)(A:Nat.beq rvs.length 1=false)(h:Ta P ⟨N,[]⟩ G rvs ts)(i:ι)(hO:O=O2 i)(M:t i=tT ts):
  AT ⟨P,⟨N,[]⟩,NA O1,w0,S0,none⟩ (bodyPost P fn (Vq ⟨P,⟨N,[]⟩,NA O1,w0,S0,none⟩ O1 t O2)) .ret O G:=fun a w S st=>by
 obtain⟨vs,k1,k2,k3⟩:=h.run st.sat st.facts
 have hne: ¬vs.length=1:=by rw [k3];intro e;rw [e]at A;cases A
 refine⟨st.facts.defers,.tuple vs.toArray,?_,K8 st rfl i hO (by rw [M];exact⟨vs,rfl,k2⟩)⟩
 have e1:(fn.results.mapM (Br a.tmps)).run P w= .ok vs.toArray w:=by
  rw [hr,List.mapM_toArray,Sem.run_map,k1]
  rfl
 have e3:results fn a.tmps=((fn.results.mapM (Br a.tmps))>>=fun vs=>pure (if h:vs.size=1 then vs[0]else .tuple vs)):=rfl
 rw [e3,qZ,e1]
 simp [Result.andThen,hne]
def Ny{k:Nat}{x:α}(hr:fn.results= #[.cell k T])(ti:TI P T sz bytes agg z)(hsz:r.sz=sz)(hag:r.agg=agg)(hk:look G k=some (bt r x))(i:ι)(hO:O=O2 i)(M:t i=K r x):
  AT ⟨P,⟨N,[]⟩,NA O1,w0,S0,none⟩ (bodyPost P fn (Vq ⟨P,⟨N,[]⟩,NA O1,w0,S0,none⟩ O1 t O2)) .ret O G:=fun a w S st=>by
 obtain⟨b,off,c,U,fr,A,V,h3⟩:=st.facts.at_ k _ hk
 obtain⟨c',h4,h5⟩:=st.sat.part V (r.len h3)
 rw [<-h5]at h3
 refine⟨st.facts.defers,r.val ((c'.toList.drop off).take r.sz),?_,K8 st rfl i hO (by rw [M];exact⟨_,rfl,h3⟩)⟩
 have hl:=iu ti h4 hsz hag h3
 have h1' :a.tmps[k]?.getD undef=Value.pointer (some ⟨b,off,none⟩):=by simpa [JZ] using A
 simp [results,hr,h1',asAddr,hl]
end
def tPV(u:Value)(t:Ty):Ty where
 p:=fun S v=>v=u/\t.p S u
 mono:=fun h ⟨e,k⟩=>⟨e,t.mono h k⟩
def aaN{t:Ty}(h:aL N G x (tPV u t)):aL N G x t:=fun S a hf=>by
 obtain⟨A,V⟩:=h S a hf
 rw [A];exact V
def St.settleP{k:Nat}{x:α}(h:St E (bx r T b x::O) G a w S)(hk:look G k=some (Z (al b 0))): ∃S',St E O ((k,tPV (al b 0) (bt r x))::G) a w S' :=by
 obtain⟨S',A⟩:=h.settleB hk
 have hv:a.tmps.getD k undef=al b 0:=h.facts.at_ k _ hk
 refine⟨S',⟨A.ext,A.sat,A.own,⟨A.facts.size,A.facts.defers,fun j t hj=>?_⟩⟩⟩
 have hp:(bt r x).p S' (a.tmps.getD k undef):=A.facts.at_ k _ (by simp [look])
 by_cases H:Nat.beq k j=true
 ·have e:=pF H
  subst e
  simp only [look,Nat.beq_refl,cond_true,yv]at hj
  subst hj
  exact⟨hv,by rw [<-hv];exact hp⟩
 ·rw [Dy]at H
  have:look ((k,bt r x)::G) j=some t:=by
   simp only [look,H,cond_false]at hj ⊢;exact hj
  exact A.facts.at_ j t this
def PJ{x:α}(k:Nat)(hk:look G k=some (Z (al b 0)))(h:RG E ops af rest O ((k,tPV (al b 0) (bt r x))::G)):RG E ops af rest (bx r T b x::O) G:=
 fun a w _ st=>let⟨S',st'⟩:=st.settleP hk;h a w S' st'
end
variable{et kt:TypeId}{kv:κ->Value}{os:List (Option Nat×Nat)}
section
variable [DecidableEq κ]{k:κ}{i v:Operand}{dst:Option Nat}{ty:TypeId}
def Do{y:β}(hm:E.P.underlying t=some (.map kt et))(hk:A4 E.P kt kv)(D:aL E.N G x (Z (au b)))(hi:xW E.N G i (kv k))(hv:aL E.N G v (γ y))(h: ∀os',RG E ops af rest (bQ (KB γ) kv b none os' (ga m k y)::O) G):
  RG E ops af (⟨none,.insert t x i v,ty,pos,after,none⟩::rest) (bQ (KB γ) kv b none os m::O) G:= .of rfl fun a w S st=>by
 have A:a.eval x=au b:=D S a st.facts
 have V:a.eval i=kv k:=hi S a st.facts
 have h3:(γ y).p S (a.eval v):=hv S a st.facts
 obtain⟨⟨hp,hfp⟩,hap,hO⟩:=st.own
 obtain⟨hno,hnb,es,clock,e3,e4,hst⟩:=hp
 obtain⟨q,hq,hdk,hinj⟩:=hk
 obtain⟨os1,p1,p2,_⟩:=pT hdk hinj (k:=k) 0 e4
 have hnb1: ∀o∈os1,o.1≠some b:=fun o ho=>by
  rcases p1 o ho with h|h
  ·exact hnb o h
  ·rw [h];exact fun e=>by cases e
 obtain⟨w',os',r,x1,x2,x3,x4⟩:=Eb (h2:=KB γ) (E:=E) (y:=y) (o:=(none,0)) (val:=a.eval v) st.sat hm ⟨q,hq,hdk,hinj⟩ ⟨hno,hnb1,es,clock,e3,p2,hst⟩ ⟨rfl,h3⟩ (fun e=>by cases e) (fun _ _ _ e=>by cases e)
 have hrun:(execOp a.eval ⟨none,.insert t x i v,ty,pos,after,none⟩).run E.P w= .ok .skip w' :=by simp [execOp,A,V,r]
 refine⟨fun c h=>(by cases h),?_⟩
 rw [hrun]
 have hfp' : ∀j,(bQ (KB γ) kv b none os' (ga m k y)).fp j->(bQ (KB γ) kv b none os m).fp j:=fun j hj=>by
  rcases x4 j hj with(h|⟨o,ho,e⟩)|e
  ·exact .inl h
  ·rcases p1 o ho with h|h
   ·exact .inr ⟨o,h,e⟩
   ·rw [h]at e;cases e
  ·cases e
 exact h os' _ _ S ⟨st.ext.step x1 (fun c hc=>hfp c (.inl hc)),x2,⟨⟨x3,fun j hj=>hfp j (hfp' j hj)⟩,fun f hf j hj=>hap f hf j (hfp' j hj),hO.ext x1 fun f hf j hj hjb=>hap f hf j (.inl hjb) hj⟩,st.facts⟩
end

def vz{κ β:Type}(γ:β->Ty)(kv:κ->Value)(S:SH):List MapEntry->List (κ×β)->Prop
 |[],[]=>True
 |e::es,q::m=>e.key=kv q.1/\(γ q.2).p S e.val/\(∀p∈m,p.1≠q.1)/\vz γ kv S es m
 |_,_=>False
def xm{κ β:Type}{γ:β->Ty}{kv:κ->Value}{S S' :SH}(h:qT S S'): ∀{es:List MapEntry} {m:List (κ×β)},vz γ kv S es m->vz γ kv S' es m
 |[],[],_=>trivial
 |_::_,q::_,⟨A,V,h3,h4⟩=>⟨A,(γ q.2).mono h V,h3,xm h h4⟩
def Vp{κ β:Type} [DecidableEq κ]{γ:β->Ty}{kv:κ->Value}{w:World}{S:SH}: ∀{es:List MapEntry} {os:List (Option Nat×Nat)} {m:List (κ×β)},yg (KB γ) kv w S none es os m->vz γ kv S es m
 |[],[],[],_=>trivial
 |_::_,_::_,_::_,⟨A,V,_,h4,h5⟩=>⟨A,by rw [bm (by simp)]at V;exact V.2,h4,Vp h5⟩
def VT{κ β:Type} [DecidableEq κ]{γ:β->Ty}{kv:κ->Value}{w:World}{S:SH}: ∀{es:List MapEntry} {m:List (κ×β)},vz γ kv S es m->yg (KB γ) kv w S none es (m.map fun _=>(none,0)) m
 |[],[],_=>trivial
 |_::_,_::_,⟨A,V,h3,h4⟩=>⟨A,by rw [bm (by simp)];exact⟨rfl,V⟩,fun _ _ _ h=>(by cases h),h3,VT h4⟩
def DG{κ β:Type}(γ:β->Ty)(kv:κ->Value)(m:List (κ×β)):Ty where
 p:=fun S v=> ∃b es clock,v=au b/\S b=some (.map es clock)/\vz γ kv S es.toList m
 mono:=fun h ⟨b,es,cl,e,A,V⟩=>by
  obtain⟨o',h3,h4⟩:=h b _ A
  have h5:o' = .map es cl:=h4
  subst h5
  exact⟨b,es,cl,e,h3,xm h V⟩
def QC: ∀S v,(DG γ kv m).p S v->v.oneCell' =true:=fun _ _ ⟨_,_,_,e,_⟩=>by rw [e];rfl
section
variable [DecidableEq κ]{k:κ}{i:Operand}{dst:Option Nat}{ty:TypeId}
def E8{z:β}{zv:Value}(hm:E.P.underlying t=some (.map kt et))(hk:A4 E.P kt kv)(hz:ZV E.P et zv)(hzt: ∀S,(γ z).p S zv)(D:aL E.N G x (DG γ kv m))(hi:xW E.N G i (kv k)):
  ce E O G ⟨dst,.lookup t x i false,ty,pos,after,g⟩ (γ ((fj m k).getD z)):= .of_pure fun a w S hs ho hf=>by
 obtain⟨b,es,clock,A,h3,h4⟩:=D S a hf
 obtain⟨o',h5,h6⟩:=hs b _ h3
 have h7:o' = .map es clock:=h6
 subst h7
 obtain⟨q,hq,hd,hinj⟩:=hk
 have V:a.eval i=kv k:=hi S a hf
 obtain⟨_,_,_,h8⟩:=pT hd hinj (k:=k) 0 (VT (w:=w) h4)
 rcases h8 with⟨g1,g2⟩|⟨y,o,e,j,g1,g2,g3,g4,g5⟩
 ·refine⟨zv,by simp [execOp,A,V,kF hm hq (hd k) h5 hz g2],by rw [g1];exact hzt S⟩
 ·refine⟨e.val,by simp [execOp,A,V,kF hm hq (hd k) h5 hz g4],by rw [g1];exact g3.2⟩
def St.settleMp{j:Nat}(h:St E (bQ (KB γ) kv b none os m::O) G a w S)(hk:look G j=some (Z (au b))): ∃S',St E O ((j,DG γ kv m)::G) a w S' :=by
 obtain⟨⟨hn,_,es,clock,h3,h4,_⟩,_⟩:=h.own.1
 obtain⟨h8,hle,_,_⟩:=Bp h (.inl rfl) h3 (wi _) hn
 have hv:a.tmps.getD j undef=au b:=h.facts.at_ j _ hk
 exact⟨_,h8.cons ⟨b,es,clock,hv,by simp [SH.set],xm hle (Vp h4)⟩⟩
def Nx{e:Exit}(j:Nat)(hk:look G j=some (Z (au b)))(h:AT E af e O ((j,DG γ kv m)::G)):AT E af e (bQ (KB γ) kv b none os m::O) G:=
 fun a w _ st=>let⟨S',st'⟩:=st.settleMp hk;h a w S' st'
end

def GS:Nat:=1000000
def tGl{α:Type}(r:Rp α)(x:α)(g:Nat):Ty where
 p:=fun S _=>(bt r x).p S (al g 0)
 mono:=fun h k=>(bt r x).mono h k
def Y2{x:α}{g:Nat}{vs:List Value}(hs:lV w S)(hg:(g,vs)∈glob)(hr: ∀S,r.rc S vs x):(bt r x).p S (al g 0):=by
 obtain⟨c,T,fr,A,V⟩:=hs.gl _ hg
 refine⟨g,0,c,T,fr,rfl,A,?_⟩
 rw [qh,<-r.len (hr S)]
 have h3:c.toList.take vs.length=vs:=V
 rw [h3]
 exact hr S
variable{s:cj}
section
variable{ty:TypeId}
def U6{t:Ty}(hf:de N S a G)(h: ∀v,t.p S v):de N S a ((GS,t)::G):=⟨hf.size,hf.defers,fun j u hj=>by
 unfold look at hj
 cases H:Nat.beq GS j with
 |true=>
  rw [H]at hj
  simp only [cond_true,yv]at hj
  rw [<-hj];exact h _
 |false=>
  rw [H]at hj
  simp only [cond_false]at hj
  exact hf.at_ j u hj⟩
def JS{x:α}{v:Nat}{vs:List Value}{t:Ty}(hg:(v,vs)∈glob)(hr: ∀S,r.rc S vs x)(h:ce E O ((GS,tGl r x v)::G) o t):ce E O G o t:=fun a w S hs ho hf=>
 h a w S hs ho (U6 hf fun _=>Y2 hs hg hr)
def X7{x:α}{v:Nat}:aL N ((GS,tGl r x v)::G) (.global v) (bt r x):=fun S a hf=>hf.at_ GS (tGl r x v) (by simp [look])
def td(s:cj)(i:Int):Option Int:=(ep s i).map fun b=>(b.toNat:Int)
def D7{ix:Operand}{i y:Int}(M:E.P.underlying t=some .string)(D:aL E.N G x (K rS s))(hi:aL E.N G ix (K (rI k) i))(hy:td s i=some y):
  ce E O G ⟨dst,.index t x ix,ty,pos,after,g⟩ (K (rI .u8) y):= .of_pure fun a w S _ _ hf=>by
 have A:a.eval x= .string ⟨s.toArray⟩:=uv.1 (D S a hf)
 have V:a.eval ix= .int k i:=f8.1 (hi S a hf)
 unfold td at hy
 cases H:ep s i with
 |none=>rw [H]at hy;cases hy
 |some b=>
  rw [H]at hy
  obtain⟨g1,g2⟩:=eM H
  have hlt:i.toNat<s.length:=(o5.1 g2).1
  have e:y=(b.toNat:Int):=by simpa using hy.symm
  have hsz:(ByteArray.mk s.toArray).size=s.length:=by simp [ByteArray.size]
  refine⟨.int .u8 y,?_,f8.2 rfl⟩
  have h3:=run_index_string (P:=E.P) w t ⟨s.toArray⟩ k i M
  rw [dif_pos (by rw [hsz];omega)]at h3
  have h4:(ByteArray.mk s.toArray)[i.toNat]'(by rw [hsz];exact hlt)=b:=by
   have:=(o5.1 g2).2
   show s.toArray[i.toNat]=b
   simpa using this
  simp only [execOp,A,V,qZ,h3,sq,EK]
  rw [h4,e]
def t8{u:cj}{hi:Operand}(M:E.P.underlying t=some .string)(D:aL E.N G x (K rS s))(hh:aL E.N G hi (K (rI k) j))(hy:dH s 0 j=some u):
  ce E O G ⟨dst,.slice t x none (some hi) none,ty,pos,after,g⟩ (K rS u):= .of_pure fun a w S _ _ hf=>by
 have A:a.eval x= .string ⟨s.toArray⟩:=uv.1 (D S a hf)
 have V:a.eval hi= .int k j:=f8.1 (hh S a hf)
 obtain⟨l,m,e1,e2,e3,e4,e5⟩:=gT hy
 have el:l=0:=by omega
 subst el e2 e5
 have hsz:(ByteArray.mk s.toArray).size=s.length:=by simp [ByteArray.size]
 have h3:=run_slice_string_h (P:=E.P) w t ⟨s.toArray⟩ M k (m:Int) (by omega) (by rw [hsz];omega)
 refine⟨_,by simp only [execOp,A,V,Option.map_none,EN,qZ,run_sliceAt_string w t _ _ _ _ M,h3,sq,EK];rfl,uv.2 ?_⟩
 congr 1
 apply ByteArray.ext
 simp
end
open Go.MapKept (Stamped)
section
variable [DecidableEq κ]
def tNx(b:Bool):Ty where
 p:=fun _ v=> ∃vs:List Value,v= .tuple (.mk (.bool b::vs))
 mono:=fun _ h=>h
end
section
variable [DecidableEq κ]{r:Nat}{left:List κ}{cur:Option κ}{k:κ}{i v:Operand}{dst:Option Nat}{ty:TypeId}
def Ky{f:Bool}(D:aL E.N G x (tNx f)):ce E O G ⟨dst,.extract x 0,ty,pos,after,g⟩ (K rB f):=
 .of_pure fun a w S _ _ hf=>by
  obtain⟨vs,A⟩:=D S a hf
  exact⟨.bool f,by simp [execOp,A,Instr.extract],jy.2 rfl⟩
end
open Go.RowKit

def SP(hs:lV w S)(h:Below w.heap.size w w')(hd:w.drawn<=w'.drawn):kx uc w S w' S/\lV w' S:=
 ⟨⟨h.os,h.tape,h.output,hd,h.size,fun k hk _=>h.block k hk,SH.le_refl _,fun _ _ _=>rfl⟩,hs.same fun b o H=>h.block b (hs.lt H)⟩
def Ng{t:cj}(h: ∀w:World,RU w->Calls P f #[.string ⟨s.toArray⟩] w fun e w' =>e= .returned (.string ⟨t.toArray⟩)/\Below w.heap.size w w'):dZ P f [K rS s] (K rS t):=fun w S vs hs hv=>by
 match vs,hv with
 |[v],⟨A,_⟩=>
  obtain rfl:=uv.1 A
  refine(MX (h w hs.tab) (fun w' hr=>by cases hr.1)).mono fun e w' ⟨⟨he,H⟩,hd⟩=>?_
  obtain⟨k1,k2⟩:=SP hs H hd
  exact⟨_,S,he,k1,k2,uv.2 rfl⟩

def rf(xs:List Int):cj:=xs.map fun n=>UInt8.ofNat n.toNat
def G1{k:IntKind}{S:SH}: ∀{xs:List Int} {cs:List Value},qc (rI k) S cs xs->cs=xs.map (Value.int k)
 |[],cs,h=>by rw [show cs=[]from h];rfl
 |x::xs,cs,⟨a,b,e,A,V⟩=>by
  rw [e,show a=[.int k x]from A,G1 V]
  rfl
section
variable{ty:TypeId}
def Sm(ha:E.P.underlying t=some (.array n e))(ti:TI E.P e sz bytes agg z)(hn:Nat.ble n maxLen=true)(D:aL E.N G x (bt (n7 r n) xs)):ce E O G ⟨dst,.slice t x none none none,ty,pos,after,g⟩ (K (fJ r) xs):= .of_pure fun a w S _ _ hf=>by
 obtain⟨b,off,c,T,fr,A,V,h3,h4⟩:=D S a hf
 have hz:(⟨b,off,none⟩:Addr).add 0=⟨b,off,none⟩:=by rw [iU,F6]
 refine⟨.slice (some ⟨b,off,none⟩) n n,?_,m4.2 ⟨_,_,by rw [h3],by omega,rm hn,.inr ⟨b,off,c,T,fr,rfl,V,by rw [h3];exact h4⟩⟩⟩
 by_cases h0:n=0
 ·subst h0
  simp [execOp,A,Instr.sliceAt,jx ha,ti.sizeOf,Instr.sliceBounds,Instr.sureAddr]
 ·simp [execOp,A,Instr.sliceAt,jx ha,ti.sizeOf,Instr.sliceBounds,Instr.sureAddr,h0,hz]
def zY{ix:Operand}{i:Int}(M:E.P.underlying t=some (.array n e))(ti:TI E.P e sz bytes agg z)(hsz:r.sz=sz)(hag:r.agg=agg)(D:aL E.N G x (K (n7 r n) xs))(hi:aL E.N G ix (K (rI k) i))(hy:ep xs i=some y):ce E O G ⟨dst,.index t x ix,ty,pos,after,g⟩ (K r y):= .of_pure fun a w S _ _ hf=>by
 obtain⟨cs,A,V,h3⟩:=D S a hf
 have h1' :a.eval x= .agg cs.toArray:=A
 have h4:a.eval ix= .int k i:=f8.1 (hi S a hf)
 obtain⟨g1,g2⟩:=eM hy
 have hlt:i.toNat<xs.length:=(o5.1 g2).1
 have hg:=wQ h3 g2
 have hin:0<=i/\i<(n:Int):=⟨g1,by omega⟩
 refine⟨r.val ((cs.drop (i.toNat*r.sz)).take r.sz),?_,_,rfl,hg⟩
 have hp:(part e cs.toArray (i.toNat*sz)).run E.P w= .ok (r.val ((cs.drop (i.toNat*r.sz)).take r.sz)) w:=by
  subst hsz
  subst hag
  have hl:=r.len hg
  unfold part
  simp only [qZ,ti.isAgg,sq]
  cases hA:r.agg with
  |true=>
   simp [ti.sizeOf,Rp.val,hA]
  |false=>
   have A:=r.sc hA
   rw [A,F5]at hl ⊢
   cases hd:cs.drop i.toNat with
   |nil=>rw [hd]at hl;simp at hl
   |cons v l=>
    have hv:cs[i.toNat]? =some v:=by
     have:=wz (xs:=cs) (i:=i.toNat) (j:=0)
     rw [hd]at this
     simpa using this.symm
    simp [Rp.val,hA,hv]
 simp [execOp,h1',h4,Instr.index,asIntOf,jx M,hin,ti.sizeOf,hp]

def tQ(s:cj)(i:Nat):Nat×Nat:=Utf8.decode ⟨s.toArray⟩ i
def ux(s:cj):Nat->Nat->List (Int×Int)
 |0,_=>[]
 |f+1,i=>if i<s.length then((i:Int),((tQ s i).1:Int))::ux s f (i+(tQ s i).2)else []
def LQ(s:cj):List (Int×Int):=ux s (s.length+1) 0
def Xy(s:cj)(i:Nat):1<=(tQ s i).2:=by
 unfold tQ Utf8.decode
 simp only []
 repeat' split
 all_goals simp
def Iv(r:Nat)(s:cj)(left:List (Int×Int)):OE where
 fp:=fun j=>j=r
 p:=fun w S=>S r=none/\ ∃pos f,w.heap[r]? =some (.stringIter ⟨s.toArray⟩ pos)/\left=ux s f pos/\s.length<pos+f
 here:=by
  rintro w S ⟨_,pos,f,h,_⟩ j rfl
  exact(Bb.1 h).1
 kept:=by
  rintro C w w' S S' ⟨h0,pos,f,h,V⟩ k hC
  have hlt:=(Bb.1 h).1
  exact⟨by rw [k.old r hlt (hC r rfl)];exact h0,pos,f,by rw [k.heap r hlt (hC r rfl)];exact h,V⟩
def Nj(M:E.P.underlying t=some .string)(D:aL E.N G x (K rS s))(hd:Nat.blt aN E.N.n=true)(k: ∀r,RG E ops af rest (Iv r s (LQ s)::O) ((aN,Z (al r 0))::G)):RG E ops af (⟨some aN,.range t x,ty,pos,after,none⟩::rest) O G:= .of rfl fun a w S st=>by
 have hv:a.eval x= .string ⟨s.toArray⟩:=uv.1 (D S a st.facts)
 have hrun:(execOp a.eval ⟨some aN,.range t x,ty,pos,after,none⟩).run E.P w= .ok (.value (al w.heap.size 0)) (w.alloc (.stringIter ⟨s.toArray⟩ 0)):=by
  simp [execOp,hv,Instr.range,jx M,al]
 refine⟨fun c h=>(by cases h),?_⟩
 rw [hrun]
 obtain⟨he,hs',hno⟩:=kL (w:=w) (.stringIter ⟨s.toArray⟩ 0) st.sat
 exact k w.heap.size _ _ S ⟨st.ext.step0 he,hs',tJ st.own he ⟨hno,0,s.length+1,Az w _,rfl,by omega⟩ (fun b H=>by rw [show b=_ from H];exact gu _) st.base_le,st.facts.put hd rfl⟩
def PK{r:Nat}{left:List (Int×Int)}(D:aL E.N G x (Z (al r 0)))(hd:Nat.blt aN E.N.n=true)(h0:left=[]->RG E ops af rest (Iv r s []::O) ((aN,tNx false)::G))(A: ∀e l,left=e::l->RG E ops af rest (Iv r s l::O) ((aN,tT [K rB true,K (rI .i64) e.1,K (rI .i32) e.2])::G)):
  RG E ops af (⟨some aN,.next x true,ty,pos,after,none⟩::rest) (Iv r s left::O) G:= .of rfl fun a w S st=>by
 obtain⟨⟨⟨hno,ps,f,H,hl,hf⟩,hfp⟩,hap,hO⟩:=st.own
 have hv:a.eval x=al r 0:=D S a st.facts
 have hsz:(ByteArray.mk s.toArray).size=s.length:=by simp [ByteArray.size]
 have hg:(getObj r).run E.P w= .ok (.stringIter ⟨s.toArray⟩ ps) w:=by
  simp [getObj,Sem.run,H]
 by_cases hp:ps<s.length
 ·obtain⟨f,rfl⟩: ∃f',f=f' +1:=⟨f-1,by omega⟩
  have hl2:left=((ps:Int),((tQ s ps).1:Int))::ux s f (ps+(tQ s ps).2):=by rw [hl,ux,bv hp]
  have hset:(setObj r (.stringIter ⟨s.toArray⟩ (ps+(tQ s ps).2))).run E.P w= .ok () {w with heap:=w.heap.setIfInBounds r (.stringIter ⟨s.toArray⟩ (ps+(tQ s ps).2))}:=by
   simp [setObj,Sem.run,H]
  have hrun:(execOp a.eval ⟨some aN,.next x true,ty,pos,after,none⟩).run E.P w= .ok (.value (.tuple #[.bool true,.int .i64 ps,.int .i32 (tQ s ps).1])) {w with heap:=w.heap.setIfInBounds r (.stringIter ⟨s.toArray⟩ (ps+(tQ s ps).2))}:=by
   have h3:(Instr.next (al r 0) true ty).run E.P w= .ok (.tuple #[.bool true,.int .i64 ps,.int .i32 (tQ s ps).1]) {w with heap:=w.heap.setIfInBounds r (.stringIter ⟨s.toArray⟩ (ps+(tQ s ps).2))}:=by
    unfold Instr.next al
    simp only [qZ,hg,sq,hsz,hp,i8]
    rw [show Utf8.decode ⟨s.toArray⟩ ps=tQ s ps from rfl]
    simp only [qZ,hset,sq]
    rfl
   simp [execOp,hv,h3]
  refine⟨fun c h=>(by cases h),?_⟩
  rw [hrun]
  have hblt:=(Bb.1 H).1
  have hx' :kx (fun k=> ∃f∈[Iv r s left],f.fp k) w S {w with heap:=w.heap.setIfInBounds r (.stringIter ⟨s.toArray⟩ (ps+(tQ s ps).2))} S:=
   ⟨rfl,rfl,rfl,gu _,by simp,fun k _ hk=>by
    have:r≠k:=fun e=>hk ⟨_,Qf _,e.symm⟩
    simp [this],SH.le_refl _,fun _ _ _=>rfl⟩
  have hs' :lV {w with heap:=w.heap.setIfInBounds r (.stringIter ⟨s.toArray⟩ (ps+(tQ s ps).2))} S:=st.sat.same fun k o hk=>by
   have:r≠k:=fun e=>by subst e;rw [hno]at hk;cases hk
   simp [this]
  have hnew:(Iv r s (ux s f (ps+(tQ s ps).2))).p {w with heap:=w.heap.setIfInBounds r (.stringIter ⟨s.toArray⟩ (ps+(tQ s ps).2))} S:=
   ⟨hno,_,f,by simp [hblt],rfl,by have:=Xy s ps;omega⟩
  refine A _ _ hl2 _ _ S ((st.turn (O1:=[Iv r s left]) (O2:=[Iv r s (ux s f (ps+(tQ s ps).2))]) hx' hs' ⟨⟨hnew,fun k hk=> .inl (jv _)⟩,fun _ h=>(by cases h),trivial⟩ (fun k ⟨g,hg,hk⟩=>?_)).put hd ?_)
  ·have:g=Iv r s (ux s f (ps+(tQ s ps).2)):=by simpa using hg
   subst this
   exact .inl ⟨_,Qf _,hk⟩
  ·exact⟨[.bool true,.int .i64 ps,.int .i32 (tQ s ps).1],rfl,jy.2 rfl,f8.2 rfl,f8.2 rfl,trivial⟩
 ·have hl2:left=[]:=by
   rw [hl]
   cases f with
   |zero=>rfl
   |succ f=>rw [ux,bm hp]
  have hrun:(execOp a.eval ⟨some aN,.next x true,ty,pos,after,none⟩).run E.P w= .ok (.value (.tuple #[.bool false])) w:=by
   have h3:(Instr.next (al r 0) true ty).run E.P w= .ok (.tuple #[.bool false]) w:=by
    unfold Instr.next al
    simp only [qZ,hg,sq,hsz,hp,jB]
    rfl
   simp [execOp,hv,h3]
  refine⟨fun c h=>(by cases h),?_⟩
  rw [hrun]
  subst hl2
  exact h0 rfl _ _ S (st.put hd ⟨[],rfl⟩)
def AU{t:Ty}{u:List Ty}{i:Nat}(hu:u[i]? =some t)(D:aL E.N G x (tT u)):ce E O G ⟨dst,.extract x i,ty,pos,after,g⟩ t:=G7 hu D
def aae{tV:List β->Prop}{Of:List β->List OE}{Gf:lY}(h: ∀l,tV l->(∀l2,l2.length<l.length->tV l2->LG E af c (Of l2) Gf)->LG E af c (Of l) Gf)(l:List β)(hz:tV l):LG E af c (Of l) Gf:=by
 have key: ∀(n:Nat) (l:List β),l.length<=n->tV l->LG E af c (Of l) Gf:=by
  intro n
  induction n with
  |zero=>intro l hn hz;exact h l hz fun l2 V _=>absurd V (by omega)
  |succ n ih=>intro l hn hz;exact h l hz fun l2 V hz2=>ih l2 (by omega) hz2
 exact key l.length l (gu _) hz
end

abbrev NG:=Nat->(Option Nat×Nat)×(Nat->Option Nat×Nat)
inductive NPl where
 |o
 |i (k:Nat)
 |l (k j:Nat)
section
def hd2(q:Nat->Option Nat×Nat)(zs:List (List α)):List Value:=zs.mapIdx fun j z=>Y (q j).1 (q j).2 z.length
def hd1(prj:β->List (List α))(g:NG)(x:List β):List Value:=x.mapIdx fun k y=>Y (g k).1.1 (g k).1.2 (prj y).length
def nsB(prj:β->List (List α))(l:Option Nat)(g:NG)(x:List β)(h:Option (Nat×Nat)):NPl->Option Nat
 | .o=>l
 | .i k=>(x[k]?).bind fun _=>(g k).1.1
 | .l k j=>if h=some (k,j)then none else((x[k]?).bind fun y=>(prj y)[j]?).bind fun _=>((g k).2 j).1
structure nstP(prj:β->List (List α))(r:Rp α)(T1 T2 T3:TypeId)(l:Option Nat)(cap n:Nat)(g:NG)(x:List β)(h:Option (Nat×Nat))(w:World)(S:SH):Prop where
 len:x.length=n
 out:Ax false rV T1 l cap (hd1 prj g x) w S
 inn: ∀k y,x[k]? =some y->Ax false rV T2 (g k).1.1 (g k).1.2 (hd2 (g k).2 (prj y)) w S
 lvs: ∀k y j z,x[k]? =some y->(prj y)[j]? =some z->h≠some (k,j)->Ax true r T3 ((g k).2 j).1 ((g k).2 j).2 z w S
 inj: ∀s t b,nsB prj l g x h s=some b->nsB prj l g x h t=some b->s=t
variable{prj:β->List (List α)}{T1 T2 T3:TypeId}{l:Option Nat}{g:NG}{x:List β}{h:Option (Nat×Nat)}
end
section
variable{prj:β->List (List α)}{T1 T2 T3:TypeId}{l:Option Nat}{g:NG}{x:List β}{h:Option (Nat×Nat)}
variable{ty:TypeId}{gd:Option (Nat×Bool)}
open Classical in
noncomputable def acn(w:World)(S:SH)(P:Nat->Prop):SH:=fun b=>if P b then w.heap[b]? else S b
def g0(hs:List (Option Nat×Nat)):NG:=fun k=>(hs.getD k (none,0),fun _=>(none,0))
def tsB(l:Option Nat)(q:Nat->Option Nat×Nat)(zs:List (List α))(h:Option Nat):Option Nat->Option Nat
 |none=>l
 |some j=>if h=some j then none else(zs[j]?).bind fun _=>(q j).1
structure rowP(r:Rp α)(T2 T3:TypeId)(l:Option Nat)(cap n:Nat)(q:Nat->Option Nat×Nat)(zs:List (List α))(h:Option Nat)(w:World)(S:SH):Prop where
 len:zs.length=n
 inn:Ax false rV T2 l cap (hd2 q zs) w S
 lvs: ∀j z,zs[j]? =some z->h≠some j->Ax true r T3 (q j).1 (q j).2 z w S
 inj: ∀s t b,tsB l q zs h s=some b->tsB l q zs h t=some b->s=t
variable{q:Nat->Option Nat×Nat}{zs:List (List α)}{k:Option Nat}
end

def IG(es:List Bool)(done:Array Bool):List Nat:=(List.range es.length).filter fun k=>(es[k]?).getD false&&done.getD k false
def WK(es:List Bool)(i:Nat)(s:List Nat):List Nat:=(List.range es.length).filter fun k=>Nat.beq k i||s.contains k
def Z4:List Nat->List Nat->Bool
 |[],[]=>true
 |a::s,b::t=>Nat.beq a b&&Z4 s t
 |_,_=>false
def Pp: ∀{s t:List Nat},Z4 s t=true->s=t
 |[],[],_=>rfl
 |a::s,b::t,h=>by
  simp only [Z4,gQ]at h
  rw [pF h.1,Pp h.2]
 |[],_::_,h=>by cases h
 |_::_,[],h=>by cases h
def Tz:List (List Nat×((Nat->OI)->List OE))->List Nat->(Nat->OI)->List OE
 |[],_,_=>[]
 |p::r,s,σ=>bif Z4 p.1 s then p.2 σ else Tz r s σ
def CP{k:Nat}:k∈IG es done↔es[k]? =some true/\done.getD k false=true:=by
 unfold IG
 rw [List.mem_filter,List.mem_range,gQ]
 constructor
 ·rintro⟨A,V,h3⟩
  refine⟨?_,h3⟩
  rw [qf A]at V ⊢
  simpa using V
 ·rintro⟨A,V⟩
  exact⟨(o5.1 A).1,by rw [A];rfl,V⟩
def SU{i:Nat}(h:es[i]? =some false):IG es (done.setIfInBounds i true)=IG es done:=by
 unfold IG
 refine List.filter_congr fun k hk=>?_
 by_cases hik:i=k
 ·subst hik;rw [h];rfl
 ·rw [xE false hik]
def Xx{i:Nat}(h:es[i]? =some true)(hs:i<done.size):IG es (done.setIfInBounds i true)=WK es i (IG es done):=by
 unfold WK
 conv=>lhs;unfold IG
 refine List.filter_congr fun k hk=>?_
 by_cases hik:i=k
 ·subst hik;simp [h,hs]
 ·rw [xE false hik]
  have H:Nat.beq k i=false:=by
   cases H:Nat.beq k i with
   |false=>rfl
   |true=>exact absurd (pF H).symm hik
  rw [H,An,vV,Lr,CP,gQ]
  constructor
  ·rintro⟨A,V⟩
   refine⟨?_,V⟩
   cases he:es[k]? with
   |none=>rw [he]at A;cases A
   |some b=>rw [he]at A;simpa using A
  ·rintro⟨A,V⟩
   exact⟨by rw [A];rfl,V⟩
def IZ:List Nat->List (List Nat)
 |[]=>[[]]
 |k::l=>(IZ l).map (k:: ·)++IZ l
def FH(es:List Bool):List Nat:=(List.range es.length).filter fun k=>(es[k]?).getD false
def zc(p:Nat->Bool): ∀l:List Nat,l.filter p∈IZ l
 |[]=>A9.2 rfl
 |k::l=>by
  unfold IZ
  rw [A6]
  by_cases h:p k=true
  ·rw [List.filter_cons_of_pos h]
   exact .inl (qY.2 ⟨_,zc p l,rfl⟩)
  ·rw [List.filter_cons_of_neg h]
   exact .inr (zc p l)
def Vt(es:List Bool)(done:Array Bool):IG es done∈IZ (FH es):=by
 have:IG es done=(FH es).filter fun k=>done.getD k false:=by
  unfold IG FH
  rw [List.filter_filter]
  refine List.filter_congr fun k _=>Bool.and_comm ..
 rw [this]
 exact zc _ _
def noE(L:List Oper)(es:List Bool)(i:Nat)(s:List Nat):Bool:=
 s.contains i||(FH es).any fun k=>if s.contains k then nN L L.length k i||(FH es).any fun j=> !s.contains j&&nN L L.length k j else nN L L.length i k
def RJ(L:List Oper)(es:List Bool)(i:Nat)(aas:List (List Nat)):Bool:=(IZ (FH es)).all fun s=>noE L es i s||aas.any fun a=>Z4 a s
def Nw{α:Type}(p:α->Prop):List α->Prop
 |[]=>True
 |a::l=>p a/\Nw p l
def Nw.mem{p:α->Prop}: ∀{l:List α},Nw p l-> ∀a∈l,p a
 |_::_,⟨h,_⟩,_,.head _=>h
 |_::_,⟨_,h⟩,_,.tail _ hm=>Nw.mem h _ hm
abbrev SsT:=List (List Nat×((Nat->OI)->List OE))
def DT(E:En)(G:lY)(L:List Oper)(ts:List TS)(Ss:SsT)(es0:List Bool):Nat->List Oper->List Bool->Prop
 |_,[],_=>True
 |i,o::rest,false::es=>(∃(needs:List NS) (t:TS) (aas:List (List Nat)),ts[i]? =some t/\xV G ts needs/\(needs.all fun n=>pH L o i (n.at fun _=>oA))=true/\fK i o=true/\SV L es0 i t=true/\RJ L es0 i aas=true/\o.dst.isSome=true/\
   Nw (fun s=> ∀σ,bj E (Tz Ss s σ) L.toArray (xM needs σ) o (t.at σ)) aas)/\DT E G L ts Ss es0 (i+1) rest es
 |i,o::rest,true::es=>(∃(needs:List NS) (t:TS) (aas:List (List Nat×List Nat)),ts[i]? =some t/\xV G ts needs/\(needs.all fun n=>pH L o i (n.at fun _=>oA))=true/\fK i o=true/\SV L es0 i t=true/\RJ L es0 i (aas.map (·.1))=true/\(aas.all fun p=>Z4 (WK es0 i p.1) p.2)=true/\
   Nw (fun p:List Nat×List Nat=> ∀σ,jD E L.toArray (Tz Ss p.1 σ) (xM needs σ) o (fun x=>Tz Ss p.2 (upd σ i x)) (fun x=>t.at (upd σ i x))) aas)/\DT E G L ts Ss es0 (i+1) rest es
 |_,_::_,[]=>False
def DT.get{ts:List TS}{Ss:SsT}{es0:List Bool}: ∀(r:List Oper) (es:List Bool) (k:Nat),DT E G L ts Ss es0 k r es-> ∀(j:Nat) (o:Oper),r[j]? =some o->
    ∃e,es[j]? =some e/\ ∃(needs:List NS) (t:TS),ts[k+j]? =some t/\xV G ts needs/\(needs.all fun n=>pH L o (k+j) (n.at fun _=>oA))=true/\fK (k+j) o=true/\SV L es0 (k+j) t=true/\
      (match e with
       |false=>o.dst.isSome=true/\ ∃aas,RJ L es0 (k+j) aas=true/\Nw (fun s=> ∀σ,bj E (Tz Ss s σ) L.toArray (xM needs σ) o (t.at σ)) aas
       |true=> ∃aas:List (List Nat×List Nat),RJ L es0 (k+j) (aas.map (·.1))=true/\(aas.all fun p=>Z4 (WK es0 (k+j) p.1) p.2)=true/\Nw (fun p:List Nat×List Nat=> ∀σ,jD E L.toArray (Tz Ss p.1 σ) (xM needs σ) o (fun x=>Tz Ss p.2 (upd σ (k+j) x)) (fun x=>t.at (upd σ (k+j) x))) aas):=by
  intro r
  induction r with
  |nil=>intro es k _ j o h;simp at h
  |cons p r ih=>
    intro es k h j o ho
    cases es with
    |nil=>exact h.elim
    |cons e es=>
      cases e with
      |false=>
        obtain⟨⟨needs,t,aas,g1,g2,g3,g4,g5,g6,g7,g8⟩,V⟩:=h
        cases j with
        |zero=>
          simp at ho;subst ho
          exact⟨false,rfl,needs,t,g1,g2,g3,g4,g5,g7,aas,g6,g8⟩
        |succ j=>
          obtain⟨e',g1,g2⟩:=ih es (k+1) V j o (by simpa using ho)
          refine⟨e',by simpa using g1,?_⟩
          rw [show k+1+j=k+(j+1)from by omega]at g2
          exact g2
      |true=>
        obtain⟨⟨needs,t,aas,g1,g2,g3,g4,g5,g6,g7,g8⟩,V⟩:=h
        cases j with
        |zero=>
          simp at ho;subst ho
          exact⟨true,rfl,needs,t,g1,g2,g3,g4,g5,aas,g6,g7,g8⟩
        |succ j=>
          obtain⟨e',g1,g2⟩:=ih es (k+1) V j o (by simpa using ho)
          refine⟨e',by simpa using g1,?_⟩
          rw [show k+1+j=k+(j+1)from by omega]at g2
          exact g2
structure Yk(E:En)(G:lY)(l:List Oper)(ts:List TS)(Ss:SsT)(es:List Bool)(done:Array Bool)(a:Act)(w:World)(S:SH)(σ:Nat->OI):Prop where
 ext:kx E.B E.w0 E.S0 w S
 sat:lV w S
 own:du E.base E.B w S (Tz Ss (IG es done) σ)
 size:a.tmps.size=E.N.n
 defers:a.defers=E.N.ds
 dsz:done.size=l.length
 down: ∀j o,l[j]? =some o->done.getD j false=true-> ∀e∈o.after,Region.binds .any e=true->done.getD e.on false=true
 old: ∀k t,look G k=some t->(∀j o,l[j]? =some o->done.getD j false=true->o.dst≠some k)->t.p S (a.tmps.getD k undef)
 new: ∀j o aN p,l[j]? =some o->done.getD j false=true->o.dst=some aN->ts[j]? =some p->(p.at σ).p S (a.tmps.getD aN undef)
 deps: ∀j p,done.getD j false=true->ts[j]? =some p-> ∀k∈p.1,done.getD k false=true
section
variable{ts:List TS}{Ss:SsT}
def Yk.need(h:Yk E G L ts Ss es done a w S σ){i:Nat}(hi:L[i]? =some o)(hun:done.getD i true=false)(hwait: ∀e∈o.after,Region.binds .any e=true->done.getD e.on false=true){needs:List NS}(A:xV G ts needs)(V:(needs.all fun n=>pH L o i (n.at fun _=>oA))=true):de E.N S a (xM needs σ):=by
 have hlt:i<done.size:=by rw [h.dsz];exact(o5.1 hi).1
 have hun' :done.getD i false=false:=by
  simp [hlt]at hun ⊢;exact hun
 refine⟨h.size,h.defers,?_⟩
 have key: ∀n∈needs,(n.ty σ).p S (a.tmps.getD n.slot undef):=by
  intro n hn
  have hs:=mZ.1 V n hn
  have ho:=A.mem n hn
  unfold pH NS.at at hs
  unfold XP at ho
  cases hsrc:n.src with
  |some j=>
   rw [hsrc]at hs ho
   simp only [gQ]at hs
   obtain⟨hs1,hs2⟩:=hs
   cases hj:L[j]? with
   |none=>rw [hj]at hs1;cases hs1
   |some p=>
    rw [hj]at hs1
    cases hd:p.dst with
    |none=>simp only [hd]at hs1;cases hs1
    |some aN=>
     simp only [hd]at hs1
     have hd' :=pF hs1
     subst hd'
     have hdone:done.getD j false=true:=by
      unfold EU at hs2
      obtain⟨e,he0,H⟩:=Dx.1 hs2
      have he:e∈o.after:=by simpa using he0
      simp only [gQ]at H
      have:=hwait e he H.2
      rwa [pF H.1]at this
     have hm:=ho σ
     cases hf:ts[j]? with
     |none=>rw [hf]at hm;simp at hm
     |some f=>
      rw [hf]at hm
      have e:f.at σ=n.ty σ:=by simpa using hm
      rw [<-e]
      exact h.new j p n.slot f hj hdone hd hf
  |none=>
   rw [hsrc]at hs ho
   refine h.old _ _ (ho σ) fun j p hj hdone hd=>?_
   have:=mZ.1 hs p (sR hj)
   simp only [hd,Nat.beq_refl,qg,An]at this
   unfold EU at this
   obtain⟨e,he0,H⟩:=Dx.1 this
   have he:e∈p.after:=by simpa using he0
   simp only [gQ]at H
   have h3:=h.down j p hj hdone e he H.2
   rw [pF H.1]at h3
   rw [h3]at hun'
   cases hun'
 clear A V
 intro k t hk
 unfold xM at hk
 induction needs with
 |nil=>simp [j9,look]at hk
 |cons n needs ih=>
  simp only [pE]at hk
  unfold j9 look at hk
  by_cases H:Nat.beq n.slot k=true
  ·have hb' :Nat.beq (n.at σ).slot k=true:=H
   rw [hb']at hk
   have:=pF H
   subst this
   have h9:some (n.at σ).ty=some t:=by simpa using hk
   have e:n.ty σ=t:=nR h9
   rw [<-e]
   exact key n (lg ..)
  ·rw [Dy]at H
   have hb' :Nat.beq (n.at σ).slot k=false:=H
   rw [hb']at hk
   exact ih (fun m hm=>key m (li _ hm)) hk
def Yk.step{σ' :Nat->OI}(h:Yk E G L ts Ss es done a w S σ){i:Nat}{p0:TS}{C:Nat->Prop}(hi:L[i]? =some o)(hdN: ∀aN,o.dst=some aN->aN<E.N.n)(hs2: ∀aN,o.dst=some aN-> ∀j p,L[j]? =some p->done.getD j false=true->p.dst=some aN->i=j)(hwait: ∀e∈o.after,Region.binds .any e=true->done.getD e.on false=true)(M:ts[i]? =some p0)(hun:done.getD i true=false)(hdep: ∀k∈p0.1,k=i\/done.getD k false=true)(hext:kx C w S w' S')(hC: ∀b,C b->E.base<=b\/E.B b)(hsat:lV w' S')(hown:du E.base E.B w' S' (Tz Ss (IG es (done.setIfInBounds i true)) σ'))(hσ: ∀k,k≠i->σ' k=σ k)(hv:(p0.at σ').p S' v):
  Yk E G L ts Ss es (done.setIfInBounds i true) (a.put o.dst v) w' S' σ' :=by
 have hlt:i<done.size:=by rw [h.dsz];exact(o5.1 hi).1
 have hset: ∀j,(done.setIfInBounds i true).getD j false=true->j=i\/done.getD j false=true:=fun j hj=>by
  by_cases hij:i=j
  ·exact .inl hij.symm
  ·rw [xE false hij]at hj;exact .inr hj
 have hseti:(done.setIfInBounds i true).getD i false=true:=by simp [hlt]
 have hun' :done.getD i false=false:=by simp [hlt]at hun ⊢;exact hun
 have hput: ∀k,(∀aN,o.dst=some aN->aN≠k)->(a.put o.dst v).tmps.getD k undef=a.tmps.getD k undef:=fun k hk=>by
  cases hd:o.dst with
  |none=>rfl
  |some aN=>
   have hda:aN<a.tmps.size:=by rw [h.size];exact hdN aN hd
   rw [vg hda,bm (hk aN hd)]
 refine⟨h.ext.step hext hC,hsat,hown,?_,?_,by simp [h.dsz],fun j p hj hdone e he H=>?_,fun k u hk hno=>?_,fun j p d' u hj hdone hd' hu=>?_,fun j u hj hu k hk=>?_⟩
 ·cases o.dst with
  |none=>exact h.size
  |some aN=>simp [Act.put,h.size]
 ·cases o.dst with
  |none=>exact h.defers
  |some aN=>exact h.defers
 ·rcases hset j hdone with rfl|hj'
  ·rw [hi]at hj
   have:o=p:=by simpa using hj
   subst this
   exact Am (hwait e he H)
  ·exact Am (h.down j p hj hj' e he H)
 ·rw [hput k fun aN hd e=>hno i o hi hseti (by rw [hd,e])]
  exact u.mono hext.keep (h.old k u hk fun j p hj hdone=>hno j p hj (Am hdone))
 ·by_cases hij:j=i
  ·subst hij
   rw [hi]at hj
   have:o=p:=by simpa using hj
   subst this
   have hda:d' <a.tmps.size:=by rw [h.size];exact hdN d' hd'
   rw [hd',vg hda,bv rfl]
   rw [M]at hu
   have:p0=u:=by simpa using hu
   subst this
   exact hv
  ·have hj' :=(hset j hdone).resolve_left hij
   rw [hput d' fun aN hd e=>by subst e;exact hij (hs2 aN hd j p hj hj' hd').symm]
   have e1:u.at σ' =u.at σ:=congrArg u.2 (Lq fun k hk=>hσ k fun e=>by
     subst e
     rw [h.deps j u hj' hu k hk]at hun';cases hun')
   rw [e1]
   exact Ty.mono _ hext.keep (h.new j p d' u hj hj' hd' hu)
 ·rcases hset j hj with rfl|hj'
  ·rw [M]at hu
   have:p0=u:=by simpa using hu
   subst this
   rcases hdep k hk with rfl|h'
   ·exact hseti
   ·exact Am h'
  ·exact Am (h.deps j u hj' hu k hk)
end
def Lu{l t:List Oper}{ts:List TS}{Ss:SsT}(hsl:yI E.N.n [] l=true)(hlen:ts.length=l.length)(hesl:es.length=l.length)(hd:DT E G (l++t) ts Ss es 0 l es)(M:AH (l++t) l.length t.length=true)(hQ: ∀a w S σ,St E (Tz Ss (FH es) σ) (L9 l (VY ts σ) G) a w S->wpListIn (fw E.r) 0 E.P (l++t).toArray af t a w):
  ∀(fuel:Nat) (done:Array Bool) (a:Act) (w:World) (S:SH) (σ:Nat->OI),lK done=fuel->(∀j,l.length<=j->done.getD j false=false)->Yk E G (l++t) ts Ss es done a w S σ->wpAnyIn (fw E.r) 0 E.P .any (l++t).toArray af fuel done a w:=by
 have hL1: ∀i o,i<l.length->(l++t)[i]? =some o->l[i]? =some o:=fun i o hi h=>by rwa [Cf hi]at h
 have hL2: ∀i o,l[i]? =some o->(l++t)[i]? =some o:=fun i o h=>by rw [Cf (o5.1 h).1];exact h
 have htail: ∀m o,l.length<=m->(l++t)[m]? =some o->xo (l++t) m=true/\fK m o=true:=fun m o hm ho=>by
  have hml:m<(l++t).length:=(o5.1 ho).1
  rw [gA]at hml
  unfold AH at M
  have:=mZ.1 M (m-l.length) (by simp;omega)
  rw [show l.length+(m-l.length)=m from by omega,ho]at this
  simp only [gQ]at this
  exact⟨this.1,this.2.1⟩
 have hget:=fun i o (hi:l[i]? =some o)=>DT.get l es 0 hd i o hi
 have hedge: ∀i o,(l++t)[i]? =some o->fK i o=true:=fun i o hi=>by
  rcases lZ i l.length with h|h
  ·obtain⟨_,_,_,_,_,_,_,h,_⟩:=hget i o (hL1 i o h hi)
   simpa using h
  ·exact(htail i o h hi).2
 obtain⟨hs1,hs2⟩:=EZ l [] hsl
 have fin: ∀fuel done a w S σ,lK done=fuel->(∀j,l.length<=j->done.getD j false=false)->Yk E G (l++t) ts Ss es done a w S σ->(∀i,i<l.length->done.getD i false=true)->wpAnyIn (fw E.r) 0 E.P .any (l++t).toArray af fuel done a w:=by
  intro fuel done a w S σ hu hfree h hall
  have hdn:IG es done=FH es:=by
   unfold IG FH
   refine List.filter_congr fun k hk=>?_
   rw [hall k (by rw [<-hesl];exact List.mem_range.1 hk),Bool.and_true]
  have hown:=h.own
  rw [hdn]at hown
  refine Be (n:=l.length) (fun m o hm ho=>(htail m o hm ho).1) hedge t l.length done fuel a w (gu _) (by simp) h.dsz (fun j hj=>⟨fun hjd=>?_,fun hlt=>hall j hlt⟩) hu
   (hQ a w S σ ⟨h.ext,h.sat,hown,h.size,h.defers,fun j u hj=>?_⟩)
  ·rcases lZ j l.length with h' |h'
   ·exact h'
   ·rw [hfree j h']at hjd;cases hjd
  ·rcases Jp l (VY ts σ) j u (by unfold VY;rw [Cb];exact hlen) hj with⟨i,o,A,V,h3⟩|⟨A,V⟩
   ·unfold VY at h3
    rw [Dz]at h3
    cases hf:ts[i]? with
    |none=>rw [hf]at h3;simp at h3
    |some f=>
     rw [hf]at h3
     have e:f.at σ=u:=by simpa using h3
     rw [<-e]
     exact h.new i o j f (hL2 i o A) (hall i (o5.1 A).1) V hf
   ·refine h.old j u A fun i o ho hdn=>?_
    rcases lZ i l.length with h' |h'
    ·exact V o (sR (hL1 i o h' ho))
    ·rw [hfree i h']at hdn;cases hdn
 have lower: ∀done a w S σ i,(∀j,l.length<=j->done.getD j false=false)->Yk E G (l++t) ts Ss es done a w S σ->i∈Region.ready .any (l++t).toArray done->l.length<=i-> ∀j,j<l.length->done.getD j false=true:=by
  intro done a w S σ i hfree h hi hge j hj
  obtain⟨hun,p,hp,hwait⟩:=um.1 hi
  have hp' :(l++t)[i]? =some p:=by simpa using hp
  have hcov:=(htail i p hge hp').1
  unfold xo at hcov
  have hre:=mZ.1 hcov j (by simp;omega)
  exact hY h.down _ i j (fun q hq e he H=>by
   have:q=p:=by rw [hp']at hq;simpa using hq.symm
   subst this
   exact hwait e he H) hre
 intro fuel
 induction fuel with
 |zero=>
  intro done a w S σ hu hfree h
  exact fin 0 done a w S σ hu hfree h fun i hi=>va hu (by rw [h.dsz,gA];omega)
 |succ fuel ih=>
  intro done a w S σ hu hfree h
  by_cases hall: ∀i,i<l.length->done.getD i false=true
  ·exact fin _ done a w S σ hu hfree h hall
  have hready0: ∀m i,i<m->i<l.length->Region.ready .any (l++t).toArray done=[]->done.getD i false=true:=by
   intro m
   induction m with
   |zero=>intro i h;omega
   |succ m ihm=>
    intro i him hil hr
    have his:i<done.size:=by rw [h.dsz,gA];omega
    by_cases hdn:done.getD i true=true
    ·rw [<-oN his];exact hdn
    ·exfalso
     obtain⟨o,ho⟩: ∃o,(l++t)[i]? =some o:=⟨l[i],hL2 i _ (qf hil)⟩
     have hmem:i∈Region.ready .any (l++t).toArray done:=by
      rw [um]
      refine⟨by simpa using hdn,o,by simpa using ho,fun e he H=>?_⟩
      have:=hedge i o ho
      unfold fK at this
      have:=mZ.1 this e (by simpa using he)
      simp only [H,qg,An,sr]at this
      exact ihm e.on (by omega) (by omega) hr
     rw [hr]at hmem;cases hmem
  refine⟨fun hr=>absurd (fun i hi=>hready0 (i+1) i (by omega) hi hr) hall,fun i hi=>?_⟩
  have hil:i<l.length:=by
   rcases lZ i l.length with h' |h'
   ·exact h'
   ·exact absurd (lower done a w S σ i hfree h hi h') hall
  obtain⟨hun,o,ho,hwait⟩:=um.1 hi
  have ho' :(l++t)[i]? =some o:=by simpa using ho
  have hol:=hL1 i o hil ho'
  obtain⟨e,he,needs,u,A,V,h3,_,h4,h5⟩:=hget i o hol
  rw [rj]at A h3 h4
  have hF:=h.need ho' hun hwait V h3
  have his:i<done.size:=by rw [h.dsz,gA];omega
  have hun' :done.getD i false=false:=by rw [<-oN his];exact hun
  have hu' :lK (done.setIfInBounds i true)=fuel:=by have:=rr hun;omega
  have huq: ∀aN,o.dst=some aN-> ∀j p,(l++t)[j]? =some p->done.getD j false=true->p.dst=some aN->i=j:=fun aN hdd j p hj hjd hpd=>by
   rcases lZ j l.length with h' |h'
   ·exact hs2 i j o p aN hol (hL1 j p h' hj) hdd hpd
   ·rw [hfree j h']at hjd;cases hjd
  have hfree' : ∀j,l.length<=j->(done.setIfInBounds i true).getD j false=false:=fun j hj=>by
   rw [xE false (by omega)];exact hfree j hj
  have hbl:E.base<=w.heap.size:=h.ext.size
  have hwaits: ∀q,(l++t)[i]? =some q-> ∀e∈q.after,Region.binds .any e=true->done.getD e.on false=true:=fun q hq e he H=>by
   have:q=o:=by rw [ho']at hq;simpa using hq.symm
   subst this
   exact hwait e he H
  have hdpp: ∀k∈u.1,k=i\/done.getD k false=true:=fun k hk=>by
   have:=mZ.1 h4 k hk
   simp only [gQ,xY]at this
   rcases this.2 with H|H
   ·exact .inl (pF H)
   ·exact .inr (hY h.down _ i k hwaits H)
  have hdNN: ∀aN,o.dst=some aN->aN<E.N.n:=fun aN hd=>(hs1 o (sR hol) aN hd).1
  unfold wpOpIn
  rw [ho]
  show if _ then _ else _
  -- just these effects stand
  have hpos:noE (l++t) es i (IG es done)=false:=by
   rw [IQ]
   intro hno
   unfold noE at hno
   rw [xY]at hno
   rcases hno with hc|hc
   ·have:=(CP.1 (Lr.1 hc)).2
    rw [this]at hun';cases hun'
   ·obtain⟨k,hk1,hk2⟩:=Dx.1 hc
    have hke:es[k]? =some true:=by
     unfold FH at hk1
     rw [List.mem_filter,List.mem_range]at hk1
     have h7:=hk1.2
     rw [qf hk1.1]at h7 ⊢
     simpa using h7
    by_cases hin:(IG es done).contains k=true
    ·rw [bv hin,xY]at hk2
     have hkd:=(CP.1 (Lr.1 hin)).2
     rcases hk2 with H|H
     ·have:=hY h.down _ k i (fun q hq e he H=>h.down k q hq hkd e he H) H
      rw [this]at hun';cases hun'
     ·obtain⟨j,hj1,hj2⟩:=Dx.1 H
      rw [gQ,yn]at hj2
      have hje:es[j]? =some true:=by
       unfold FH at hj1
       rw [List.mem_filter,List.mem_range]at hj1
       have h7:=hj1.2
       rw [qf hj1.1]at h7 ⊢
       simpa using h7
      have hjd:=hY h.down _ k j (fun q hq e he H=>h.down k q hq hkd e he H) hj2.2
      have:=Lr.2 (CP.2 ⟨hje,hjd⟩)
      rw [hj2.1]at this;cases this
    ·rw [bm hin]at hk2
     have hkd:=hY h.down _ i k hwaits hk2
     exact hin (Lr.2 (CP.2 ⟨hke,hkd⟩))
  have hwin: ∀aas:List (List Nat),RJ (l++t) es i aas=true->IG es done∈aas:=by
   intro aas hw
   unfold RJ at hw
   have:=mZ.1 hw _ (Vt es done)
   rw [hpos,An]at this
   obtain⟨b,hb1,hb2⟩:=Dx.1 this
   rw [<-Pp hb2];exact hb1
  cases e with
  |false=>
   simp only at h5
   obtain⟨wX,aas,hw,h5⟩:=h5
   rw [rj]at hw
   obtain⟨aN,hdd⟩:=Option.isSome_iff_exists.1 wX
   have h6:=h5.mem _ (hwin aas hw) σ a w S h.sat h.own hF
   have hdq:=SU (done:=done) he
   by_cases hw:Region.wanted o (yielded (l++t).toArray a.tmps)=true
   ·rw [bv hw]at h6 ⊢
    refine lv (fun a' w' ⟨v,S',ha,D,hs,hv⟩=>?_) h6
    subst ha
    exact ih _ _ _ S' _ hu' hfree' (h.step ho' hdNN huq hwait A hun hdpp D (fun _ H=>H.elim) hs (by rw [hdq];exact h.own.ext0 D) (fun _ _=>rfl) hv)
   ·rw [bm hw]at h6 ⊢
    exact⟨fun _ _=>trivial,ih _ _ _ S _ hu' hfree' (h.step ho' hdNN huq hwait A hun hdpp (kx.refl uc _ _) (fun _ H=>H.elim) h.sat (by rw [hdq];exact h.own) (fun _ _=>rfl) h6)⟩
  |true=>
   simp only [rj]at h5
   obtain⟨aas,hw,hins,h5⟩:=h5
   obtain⟨p,hp1,hp2⟩:=qY.1 (hwin _ hw)
   have hp3:=Pp (mZ.1 hins p hp1)
   have h6:=h5.mem p hp1 σ a w S h.sat (by rw [hp2];exact h.own) hF hbl
   have hdq:IG es (done.setIfInBounds i true)=p.2:=by rw [Xx he his,<-hp2,hp3]
   by_cases hw:Region.wanted o (yielded (l++t).toArray a.tmps)=true
   ·rw [bv hw]at h6 ⊢
    refine lv (fun a' w' ⟨v,S',x,ha,D,hs,hown,hv⟩=>?_) h6
    subst ha
    exact ih _ _ _ S' _ hu' hfree' (h.step ho' hdNN huq hwait A hun hdpp D (fun b ⟨f,hf,H⟩=>(du.mem h.own f (by rw [<-hp2];exact hf)).2 b H) hs (by rw [hdq];exact hown) (fun k hk=>J7 σ x hk) hv)
   ·rw [bm hw]at h6 ⊢
    obtain⟨x,hown,hv⟩:=h6
    exact⟨fun _ _=>trivial,ih _ _ _ S _ hu' hfree' (h.step ho' hdNN huq hwait A hun hdpp (kx.refl uc _ _) (fun _ H=>H.elim) h.sat (by rw [hdq];exact hown) (fun k hk=>J7 σ x hk) hv)⟩
def Nv{id:Nat}(m:Nat)(ts:List TS)(es:List Bool)(Ss:SsT)(hO: ∀σ,Tz Ss [] σ=O)(hm:E.P.follows .mixedOrders=true)(hsl:yI E.N.n [] (L.take m)=true)(hlen:ts.length=(L.take m).length)(hesl:es.length=(L.take m).length)(M:AH L (L.take m).length (L.drop m).length=true)(hd:DT E G L ts Ss es 0 (L.take m) es)(k: ∀σ:Nat->OI,RG E L.toArray af (L.drop m) (Tz Ss (FH es) σ) (L9 (L.take m) (VY ts σ) G)):CG E af (.region id L.toArray true) O G:=fun a w S st=>by
 have hL:L=L.take m++L.drop m:=(ra m L).symm
 generalize L.take m=l at hL hsl hlen hesl M hd k
 generalize L.drop m=t at hL M k
 subst hL
 refine wpIn_region_any hm ?_
 obtain⟨he,hs⟩:=Dv (w:=w) st.sat
 have hdn0:IG es (Array.replicate (l++t).toArray.size false)=[]:=by
  unfold IG
  refine List.filter_eq_nil_iff.2 fun k hk=>?_
  simp [Ba]
  intro _
  split<;>simp
 refine Lu hsl hlen hesl hd M (fun a w S σ st=>k σ a w S st) _ _ _ _ S (fun _=>oA) ?_ (fun j _=>?_)
  ⟨st.ext.step0 he,hs,by rw [hdn0,hO];exact st.own.ext0 he,st.facts.size,st.facts.defers,by simp,fun j o hj hdone=>?_,fun k t hk _=>st.facts.at_ k t hk,fun j o aN t hj hdone=>?_,fun j p hdone=>?_⟩
 ·unfold lK;rw [Qe,PY];simp
 ·simp [Ba];split<;>rfl
 ·simp [Ba]at hdone
  split at hdone<;>simp at hdone
 ·simp [Ba]at hdone
  split at hdone<;>simp at hdone
 ·simp [Ba]at hdone
  split at hdone<;>simp at hdone

def du.perm(h:O.Perm O'):du base B w S O->du base B w S O' :=by
 induction h with
 |nil=>exact id
 |cons x p ih=>
  rintro⟨A,V,h3⟩
  exact⟨A,fun f hf=>V f (p.mem_iff.2 hf),ih h3⟩
 |swap x y l=>
  rintro⟨A,V,h3,h4,h5⟩
  refine⟨h3,fun f hf k hk hfk=>?_,A,fun f hf=>V f (li _ hf),h5⟩
  rcases f7.1 hf with rfl|hf
  ·exact V x (lg ..) k hfk hk
  ·exact h4 f hf k hk hfk
 |trans _ _ ih1 ih2=>exact fun k=>ih2 (ih1 k)
def vh(O:List OE):List Nat->List OE
 |[]=>[]
 |i::l=>match O[i]? with
  |some e=>e::vh O l
  |none=>vh O l
def CK(O:List OE): ∀a b:List Nat,vh O (a++b)=vh O a++vh O b
 |[],_=>rfl
 |i::a,b=>by
  simp only [xZ,vh]
  split<;>simp [CK O a b]
def Ow{a b:List Nat}(h:a.Perm b):(vh O a).Perm (vh O b):=by
 induction h with
 |nil=>exact .nil
 |cons x p ih=>
  simp only [vh]
  split
  ·exact .cons _ ih
  ·exact ih
 |swap x y l=>
  simp only [vh]
  cases D:O[x]? <;>cases hy:O[y]? <;>simp<;>exact .swap ..
 |trans _ _ ih1 ih2=>exact ih1.trans ih2
def L5(O:List OE):vh O (List.range O.length)=O:=by
 have key: ∀n,n<=O.length->vh O (List.range n)=O.take n:=by
  intro n
  induction n with
  |zero=>intro _;rfl
  |succ n ih=>
   intro h
   rw [List.range_succ,CK,ih (by omega)]
   simp only [vh]
   rw [qf (by omega),NF (by omega)]
 rw [key _ (gu _),AA]
def du.pick(l:List Nat)(hl:l.isPerm (List.range O.length)=true)(h:du base B w S O):du base B w S (vh O l):=
 h.perm (by
  have:=Ow (O:=O) (List.isPerm_iff.1 hl)
  rw [L5]at this
  exact this.symm)
def O9(P:Program)(T:TypeId)(i:Nat):Option (TypeId×Nat):=
 match P.underlying T with
 |some (.struct fs)=>(fs[i]?).map fun f=>(f.type,f.offset)
 |_=>none
def Uw{ty:TypeId}{get:α->β}{v:α}{ft:TypeId}{i:Nat}(hT:O9 E.P T i=some (ft,off))(ti:TI E.P ft sz bytes agg z)(hsz:q.sz=sz)(hag:q.agg=agg)(hr:r.agg=true)(hq:ju r off q get)(D:aL E.N G x (K r v)):
  ce E O G ⟨dst,.field T x i,ty,pos,after,g⟩ (K q (get v)):= .of_pure fun a w S _ _ hF=>by
 obtain⟨cs,A,V⟩:=D S a hF
 have h1' :a.eval x= .agg cs.toArray:=by rw [A];unfold Rp.val;rw [hr];rfl
 unfold O9 at hT
 split at hT
 ·rename_i fs hu
  cases hf:fs[i]? with
  |none=>rw [hf]at hT;cases hT
  |some f=>
   rw [hf]at hT
   simp only [EN,yv,EM]at hT
   obtain⟨e1,e2⟩:=hT
   subst e1 e2
   have h3:=qu ti hsz hag hq V w
   exact⟨_,by simp [execOp,h1',Instr.field,jx hu,hf,asAgg,h3],_,rfl,hq S cs v V⟩
 ·cases hT

def aaf{α β:Type}(r:Rp α)(off:Nat)(q:Rp β)(x:α)(y:β):Prop:= ∀S cs,r.rc S cs x->off+q.sz<=cs.length/\q.rc S ((cs.drop off).take q.sz) y
def O5{x:α}:aaf r 0 r x x:=fun S cs h=>by
 have hl:=r.len h
 refine⟨by omega,?_⟩
 rw [qh,oB (by omega)];exact h
section
section
variable{ty:TypeId}
end
def fC{ty:TypeId}{l:Option Nat}{o:Nat}(hm:ku mm r U l cap xs∈O)(hy:ep xs j=some y)(hp:aL E.N G p (Z (bh l o))):
  ce E O G ⟨dst,.nilCheck p,ty,pos,after,g⟩ (Z (bh l o)):=
 .of_pure fun a w S _ ho hF=>by
  have A:a.eval p=bh l o:=hp S a hF
  obtain⟨_,hy'⟩:=eM hy
  obtain⟨b,cur,rfl,_⟩:=nE (ho.mem _ hm).1 hy'
  exact⟨bh (some b) o,by simp [execOp,A,bh,al],rfl⟩
end
open Go.ChangeShapes Go.WideShapes Go.ChangeAt

variable{hb:Type}{W:World}{enc:TypeId×Value->hb}
section
def KC(W:World):SH:=fun b=>W.heap[b]?
def YF(W:World)(hg: ∀p∈glob,∃c T fr,W.heap[p.1]? =some (.cells c T fr)/\c.toList.take p.2.length=p.2)(M: ∀w' :World,(∀(b:Nat) (o:Obj),W.heap[b]? =some o-> ∃o',w'.heap[b]? =some o' /\Io o o')->RU w'):lV W (KC W):=⟨fun _ o h=>⟨o,h,wi o⟩,hg,M⟩
def vU(enc:TypeId×Value->hb)(P:Program)(W:World){α:Type}(t:TypeId)(r:Rp α):Prop:=
 P.cellsOf t=r.sz/\ ∀fuel cs x,DataW.trod enc P W 0 (fun _=>true) true fuel t cs=some x-> ∃y,r.rc (KC W) cs y
def TL(h:P.underlying t=some .bool)(hc:P.cellsOf t=1):vU enc P W t rB:=⟨hc,fun fuel cs x D=>by
 cases fuel with
 |zero=>simp [DataW.trod]at D
 |succ n=>
  unfold DataW.trod at D
  rw [h]at D
  split at D
  all_goals try (injections;done)
  ·exact⟨_,rfl⟩⟩
def wk{α β:Type}{f:α->Option β}: ∀{l:List α} {r:List β},l.mapM f=some r->r.length=l.length/\ ∀(i:Nat) (x:α),l[i]? =some x-> ∃y,r[i]? =some y/\f x=some y
 |[],r,h=>by
  simp at h
  subst h
  exact⟨rfl,fun i x D=>by simp at D⟩
 |a::l,r,h=>by
  rw [List.mapM_cons]at h
  cases hf:f a with
  |none=>rw [hf]at h;simp at h
  |some b=>
   rw [hf]at h
   cases hm:l.mapM f with
   |none=>rw [hm]at h;simp at h
   |some r' =>
    rw [hm]at h
    simp at h
    subst h
    obtain⟨A,V⟩:=wk hm
    refine⟨by simp [A],fun i x D=>?_⟩
    cases i with
    |zero=>simp at D;subst D;exact⟨b,rfl,hf⟩
    |succ i=>exact V i x (by simpa using D)
def Ew{a:Addr}(h:W.cell? a=some v):a.spot=none/\ ∃c E fr,W.heap[a.block]? =some (.cells c E fr)/\c[a.off]? =some v:=by
 unfold World.cell? at h
 cases ho:W.heap[a.block]? with
 |none=>rw [ho]at h;cases h
 |some o=>
  rw [ho]at h
  cases o with
  |cells c E fr=>
   simp only at h
   by_cases hs:a.spot.isSome=true
   ·rw [bv hs]at h;cases h
   ·rw [bm hs]at h
    exact⟨by cases hq:a.spot with
     |none=>rfl
     |some s=>rw [hq]at hs;simp at hs,c,E,fr,rfl,h⟩
  |_=>simp at h
def JR(a:Addr):a.add 0=a:=by unfold Addr.add;rfl
def PF(h:W.cells? 0 ⟨b,off,none⟩ n=some cs)(hn:0<n): ∃c E fr,W.heap[b]? =some (.cells c E fr)/\cs=(c.toList.drop off).take n:=by
 unfold World.cells? at h
 rw [bv (jv _)]at h
 obtain⟨A,V⟩:=wk h
 obtain⟨v,_,hv⟩:=V 0 0 (by simp [hn])
 obtain⟨_,c,E,fr,h3,h4⟩:=Ew hv
 refine⟨c,E,fr,by simpa [Addr.add] using h3,?_⟩
 apply Ga
 intro i
 have hl:cs.length=n:=by simpa using A
 by_cases hi:i<n
 ·obtain⟨v,h5,h6⟩:=V i i (by simp [hi])
  obtain⟨_,c',E',fr',h7,h8⟩:=Ew h6
  rw [iU]at h7 h8
  have h7' :W.heap[b]? =some (.cells c' E' fr'):=h7
  have h3' :W.heap[b]? =some (.cells c E fr):=by simpa [Addr.add] using h3
  rw [h3']at h7'
  injection h7' with h7'
  injection h7' with e1
  subst e1
  rw [h5,DA hi,wz]
  simpa using h8.symm
 ·rw [Ip (by omega),Ip (by simp;omega)]
def RP{q:Rp α}{len:Nat}{a:Addr}{x:DataW hb×List MemPlace}(h0' :0<q.sz)(hq:vU enc P W e q)(D:(let elemAt (i:Nat):Option (DataW hb×List MemPlace):=(W.cells? 0 (a.add (i*P.cellsOf e)) (P.cellsOf e)).bind (DataW.trod enc P W 0 (fun _=>true) true n e)
   if 0<=a.block/\len<=cap/\cap<=maxLen then
    ((List.range len).mapM elemAt).bind fun elems=>
     (if(fun _=>true) a.block then(List.range (cap-len)).mapM fun j=>elemAt (len+j)else some []).map fun rest=>
      (DataW.slice (elems.map (·.1)) (rest.map (·.1)),MemPlace.row a ((elems.length+rest.length)*P.cellsOf e)++(elems++rest).flatMap (·.2))
   else none)=some x): ∃y,(fJ q).rc (KC W) [.slice (some a) len cap] y:=by
 simp only at D
 split at D
 ·rename_i hcond
  obtain⟨_,hle,hmax⟩:=hcond
  cases hm:(List.range len).mapM (fun i=>(W.cells? 0 (a.add (i*P.cellsOf e)) (P.cellsOf e)).bind (DataW.trod enc P W 0 (fun _=>true) true n e))with
  |none=>rw [hm]at D;simp at D
  |some elems=>
   obtain⟨hm1,hm2⟩:=wk hm
   rw [hq.1]at hm2
   by_cases hl0:len=0
   ·subst hl0;exact⟨[],some a,cap,rfl,jv _,hmax,.inl rfl⟩
   have hsp0:a.spot=none:=by
    obtain⟨z,_,hz⟩:=hm2 0 0 (by rw [List.getElem?_range (by omega)])
    rw [Nat.zero_mul,JR]at hz
    cases hcs:W.cells? 0 a q.sz with
    |none=>rw [hcs]at hz;simp at hz
    |some cs1=>
     unfold World.cells? at hcs
     rw [bv (jv _)]at hcs
     obtain⟨_,g2⟩:=wk hcs
     obtain⟨v,_,hv⟩:=g2 0 0 (by simp [h0'])
     rw [JR]at hv
     exact(Ew hv).1
   have hcell: ∀i,i<len-> ∃c E fr,a.spot=none/\W.heap[a.block]? =some (.cells c E fr)/\ ∃y,q.rc (KC W) ((c.toList.drop (a.off+i*q.sz)).take q.sz) y:=by
    intro i hi
    obtain⟨z,_,hz⟩:=hm2 i i (by simp [hi])
    cases hcs:W.cells? 0 (a.add (i*q.sz)) q.sz with
    |none=>rw [hcs]at hz;simp at hz
    |some cs1=>
     rw [hcs]at hz
     have hsp:a.spot=none:=hsp0
     obtain⟨ab,ao,az⟩:=a
     simp only at hsp
     subst hsp
     rw [iU]at hcs
     obtain⟨c,E,fr,g1,g2⟩:=PF hcs h0'
     obtain⟨y,hy⟩:=hq.2 n cs1 z hz
     exact⟨c,E,fr,rfl,g1,y,by rw [<-g2];exact hy⟩
   obtain⟨c,E,fr,hsp,H,_⟩:=hcell 0 (by omega)
   have key: ∀m,m<=len-> ∃ys:List α,ys.length=m/\qc q (KC W) ((c.toList.drop a.off).take (m*q.sz)) ys:=by
    intro m
    induction m with
    |zero=>intro _;exact⟨[],rfl,by simp [qc]⟩
    |succ m ih=>
     intro hm'
     obtain⟨ys,hy1,hy2⟩:=ih (by omega)
     obtain⟨c',E',fr',_,hb',y,hy⟩:=hcell m (by omega)
     rw [H]at hb'
     injection hb' with hb'
     injection hb' with e1
     subst e1
     refine⟨ys++[y],by simp [hy1],?_⟩
     have hsplit:(c.toList.drop a.off).take ((m+1)*q.sz)=(c.toList.drop a.off).take (m*q.sz)++(c.toList.drop (a.off+m*q.sz)).take q.sz:=by
      rw [xX,Nat.one_mul,List.take_add,uk]
     rw [hsplit]
     exact uE hy2 (Ot.2 hy)
   obtain⟨ys,hy1,hy2⟩:=key len (gu _)
   obtain⟨ab,ao,az⟩:=a
   simp only at hsp
   subst hsp
   exact⟨ys,some ⟨ab,ao,none⟩,cap,by rw [hy1],by omega,hmax,.inr ⟨ab,ao,c,E,fr,rfl,H,by rw [hy1];exact hy2⟩⟩
 ·cases D
def oC{q:Rp α}(h:P.underlying t=some (.slice e))(hc:P.cellsOf t=1)(h0:Nat.blt 0 q.sz=true)(hq:vU enc P W e q):vU enc P W t (fJ q):=⟨hc,fun fuel cs x D=>by
 have h0' :0<q.sz:=by simpa [sr] using h0
 cases fuel with
 |zero=>simp [DataW.trod]at D
 |succ n=>
  unfold DataW.trod at D
  rw [h]at D
  split at D
  all_goals try (injections;done)
  ·exact⟨[],none,0,rfl,gu _,jv _,.inl rfl⟩
  ·rename_i e' a len cap heq
   injection heq with e1
   injection e1 with e1
   subst e1
   exact RP h0' hq D⟩
def XR(enc:TypeId×Value->hb)(P:Program)(W:World){α:Type}(off:Nat)(l:List (TypeId×Nat))(r:Rp α):Prop:=
 ∀(fuel:Nat) (cs:List Value),cs.length=off+r.sz->(∀f∈l,∃x,DataW.trod enc P W 0 (fun _=>true) true fuel f.1 ((cs.drop f.2).take (P.cellsOf f.1))=some x)-> ∃y,r.rc (KC W) (cs.drop off) y
def mD{t:Nat}(h:vU enc P W t r):XR enc P W off [(t,off)] r:=fun fuel cs hl D=>by
 obtain⟨x,D⟩:=D _ (Qf _)
 simp only at D
 rw [h.1,oB (by simp;omega)]at D
 exact h.2 _ _ _ D
def eF{p:Rp α}{t off' :Nat}{l:List (TypeId×Nat)}(h:vU enc P W t p)(ho:off' =off+p.sz)(hr:XR enc P W off' l q):XR enc P W off ((t,off)::l) (bS p q):=fun fuel cs hl D=>by
 subst ho
 obtain⟨x,hx1⟩:=D _ (lg ..)
 simp only at hx1
 rw [h.1]at hx1
 obtain⟨y,hy⟩:=h.2 _ _ _ hx1
 obtain⟨z,hz⟩:=hr fuel cs (by rw [hl];show off+(p.sz+q.sz)=_;omega) fun f hf=>D f (li _ hf)
 exact⟨(y,z),_,_,by rw [<-uk];exact(ra _ _).symm,hy,hz⟩
def jF{l:List (TypeId×Nat)}{p:Rp α}{f:β->α}(M:(P.underlying t).map (fun aN=>match aN with| .struct l=>(true,l.toList.map fun f=>(f.type,f.offset))|_=>(false,[]))=some (true,l))(hc:P.cellsOf t=p.sz)(hf: ∀y,∃x,f x=y)(hl:XR enc P W 0 l p):vU enc P W t (j4 p f):=⟨hc,fun fuel cs x D=>by
 obtain⟨fs,A,V⟩: ∃fs,P.underlying t=some (.struct fs)/\fs.toList.map (fun f=>(f.type,f.offset))=l:=by
  cases hu:P.underlying t with
  |none=>rw [hu]at M;cases M
  |some aN=>
   rw [hu]at M
   cases aN<;>simp at M
   exact⟨_,rfl,M⟩
 cases fuel with
 |zero=>simp [DataW.trod]at D
 |succ n=>
  unfold DataW.trod at D
  rw [A]at D
  change (if cs.length=P.cellsOf t then(fs.toList.mapM fun f=>DataW.trod enc P W 0 (fun _=>true) true n f.type ((cs.drop f.offset).take (P.cellsOf f.type))).map (fun xs=>(DataW.agg (xs.map (·.1)),xs.flatMap (·.2)))else none)=some x at D
  split at D
  ·rename_i hlen
   cases hm:fs.toList.mapM (fun f=>DataW.trod enc P W 0 (fun _=>true) true n f.type ((cs.drop f.offset).take (P.cellsOf f.type)))with
   |none=>rw [hm]at D;simp at D
   |some r=>
    obtain⟨_,hm2⟩:=wk hm
    obtain⟨y,hy⟩:=hl n cs (by rw [hlen,hc];omega) (fun g hg=>by
     rw [<-V,qY]at hg
     obtain⟨f0,hf0,rfl⟩:=hg
     obtain⟨i,hi⟩:=List.getElem?_of_mem hf0
     obtain⟨z,_,hz⟩:=hm2 i f0 hi
     exact⟨z,hz⟩)
    obtain⟨x',hx'⟩:=hf y
    refine⟨x',?_⟩
    show p.rc _ cs (f x')
    rw [hx']
    simpa using hy
  ·cases D⟩
def Le{W' :World}(h:kx uc W S W' S'):Below W.heap.size W W' :=⟨h.os,h.tape,h.output,h.size,fun k hk=>h.heap k hk (fun h=>h)⟩
def AF(hl:laidOutB P=true){W W' :World}(H:Below W.heap.size W W'){sp:Nat->Bool}: ∀{ts:List TypeId} {vs:List Value} {ds:List (DataW hb)} {ps:List MemPlace},(∀t∈ts,P.readableRec t=true/\t<P.types.size)->
  DataW.TrodAll enc P W 0 (fun _=>true) true ts vs ds ps->(∀p∈ps,p.block<W.heap.size)->(∀p∈ps,sp p.block=true)->DataW.TrodAll enc P W' 0 sp true ts vs ds ps
 |[],[],[],_,_,h,_,_=>h
 |t::ts,v::vs,aN::ds,_,hr,⟨p,q,A,V,e⟩,hlt,hsp=>by
  subst e
  have M:=hr t (lg ..)
  exact⟨p,q,WideElems.Trod_stays hl M.1 M.2 A (fun x D=>H.same (hlt x (F4 _ D))) (fun x D=>hsp x (F4 _ D)),
   AF hl H (fun t M=>hr t (li _ M)) V (fun x D=>hlt x (PZ _ D)) (fun x D=>hsp x (PZ _ D)),rfl⟩
def UG{f:Func}{s:ChangeSpec}{apart fresh handsOn again:Bool}{W' :World}{args:Array Value}{ds gs:List (DataW hb)}{before:List MemPlace}{tb:TypeId}(hl:laidOutB P=true)(hr: ∀t∈f.params.toList,P.readableRec t=true/\t<P.types.size)(hvs:s.vars=[])(hres:f.resultTypes= #[tb])(htb:P.underlying tb=some .bool)(hW:DataW.Whole enc P f.params.toList s.vars apart W args.toList ds gs before)(hs:s.fn hb (ds++gs)={results:=[.lit (.bool true)],args:=ds})(H:Below W.heap.size W W'):
  s.post enc P f apart fresh handsOn again W args (.bool true) W' :=by
 have hW0:=hW
 have hlt:=hW.lt
 obtain⟨pa,pv,hA,hV,rfl,hz,hn⟩:=hW
 rw [hvs]at hV
 have hpv:pv=[]:=by
  cases gs with
  |nil=>exact hV
  |cons g gs=>exact hV.elim
 subst hpv
 have hlt' : ∀p∈pa,p.block<W.heap.size:=fun p hp=>hlt p (by simpa using hp)
 have hargs: ∀sp:Nat->Bool,(∀p∈pa,sp p.block=true)->DataW.TrodAll enc P W' 0 sp true f.params.toList args.toList ds pa:=fun sp hsp=>AF hl H hr hA hlt' hsp
 have hresT: ∀(b:Nat) (sp:Nat->Bool) (hd:Bool),DataW.TrodAll enc P W' b sp hd f.resultTypes.toList ((Value.bool true).resultList f.resultTypes.size) [.lit (.bool true)] []:=fun b sp hd=>by
  rw [hres]
  exact⟨[],[],⟨1,by simp [DataW.trod,htb,Value.cells]⟩,rfl,rfl⟩
 have hvT: ∀sp:Nat->Bool,DataW.TrodVars enc P W' sp s.vars (s.fn hb (ds++gs)).vars []:=fun sp=>by
  rw [hvs,hs];rfl
 have hargs' : ∀sp:Nat->Bool,(∀p∈pa,sp p.block=true)->DataW.TrodAll enc P W' 0 sp true f.params.toList args.toList (s.fn hb (ds++gs)).args pa:=fun sp hsp=>by rw [hs];exact hargs sp hsp
 have hres' : ∀(b:Nat) (sp:Nat->Bool) (hd:Bool),DataW.TrodAll enc P W' b sp hd f.resultTypes.toList ((Value.bool true).resultList f.resultTypes.size) (s.fn hb (ds++gs)).results []:=fun b sp hd=>by rw [hs];exact hresT b sp hd
 have hold: ∀p∈pa,(fun b=>decide (b<W.heap.size)) p.block=true:=fun p hp=>by simpa using hlt' p hp
 refine⟨ds,gs,pa++[],[],pa,[],hW0,hres' _ _ _,hargs' _ hold,hvT _,World.keptBut_mono (fun p hp=>⟨hp,?_⟩) (H.frame _),fun _=>?_⟩
 ·right;simpa using hp
 ·refine⟨?_,_,_,([]++pa)++[],⟨[]++pa,[],trodAll_append (hargs' _ (fun _ _=>rfl)) (hres' _ _ _),hvT _,rfl,?_,?_⟩,?_⟩
  ·intro j t r A V
   rw [hres]at A V
   cases j with
   |zero=>
    simp [Value.resultList]at A V
    subst A V
    simp [Value.okWide,htb,Cell.okWide,Cell.ok]
   |succ j=>simp at A
  ·intro b off hp
   have hp' :MemPlace.cell b off∈pa:=by simpa using hp
   have:=hlt' _ hp'
   rw [H.frozen (p:=⟨b,off,none⟩) this]
   exact hz b off (by simpa using hp')
  ·intro ha
   have:=hn ha
   simpa using this
  ·intro p hp _
   simpa using hp
end

section
def yk{α:Type}(r:Rp α)(ok:α->Prop):Rp α where
 sz:=r.sz
 agg:=r.agg
 rc:=fun S cs x=>r.rc S cs x/\ok x
 mono:=fun h k=>⟨r.mono h k.1,k.2⟩
 len:=fun k=>r.len k.1
 one:=fun k=>r.one k.1
 sc:=r.sc
def Ee(k:IntKind)(n:Int):Prop:=k.min<=n/\n<=k.max
def FZ(s:cj):Prop:=s.length<=maxLen
def V1{α:Type}(ok:α->Prop)(xs:List α):Prop:=xs.length<=maxLen/\ ∀x∈xs,ok x
def V0{α:Type}(_:α):Prop:=True
def Gn(h:P.underlying t=some (.int k))(hc:P.cellsOf t=1):vU enc P W t (yk (rI k) (Ee k)):=⟨hc,fun fuel cs x D=>by
 cases fuel with
 |zero=>simp [DataW.trod]at D
 |succ n=>
  unfold DataW.trod at D
  rw [h]at D
  split at D
  all_goals try (injections;done)
  ·rename_i k1 k2 m heq
   injection heq with e
   injection e with e
   subst e
   split at D
   ·rename_i V
    obtain⟨rfl,h3⟩:=V
    simp only [Lit.wf,gQ,mo]at h3
    exact⟨m,rfl,h3⟩
   ·cases D⟩
def TK(h:P.underlying t=some .string)(hc:P.cellsOf t=1):vU enc P W t (yk rS FZ):=⟨hc,fun fuel cs x D=>by
 cases fuel with
 |zero=>simp [DataW.trod]at D
 |succ n=>
  unfold DataW.trod at D
  rw [h]at D
  split at D
  all_goals try (injections;done)
  ·rename_i s heq
   split at D
   ·rename_i V;exact⟨s.data.toList,rfl,(show s.data.toList.length<=maxLen from(show s.size=s.data.toList.length from rfl)▸V)⟩
   ·cases D⟩
def RQ(h:P.underlying t=some .bool)(hc:P.cellsOf t=1):vU enc P W t (yk rB V0):=
 ⟨hc,fun fuel cs x D=>by obtain⟨y,hy⟩:=(TL (enc:=enc) (W:=W) h hc).2 fuel cs x D;exact⟨y,hy,trivial⟩⟩
def FO{α:Type}(r' r:Rp α)(ok:α->Prop):Prop:=r'.sz=r.sz/\r'.agg=r.agg/\ ∀S cs x,r'.rc S cs x->r.rc S cs x/\ok x
def jV:FO (yk r ok) r ok:=⟨rfl,rfl,fun _ _ _ h=>h⟩
def FX{α:Type}{r' r:Rp α}{ok:α->Prop}(h:FO r' r ok){S:SH}: ∀{xs:List α} {cs:List Value},qc r' S cs xs->qc r S cs xs/\ ∀x∈xs,ok x
 |[],_,k=>⟨k,fun x D=>by cases D⟩
 |x::xs,_,⟨a,b,e,A,V⟩=>by
  obtain⟨g1,g2⟩:=h.2.2 _ _ _ A
  obtain⟨g3,g4⟩:=FX h V
  exact⟨⟨a,b,e,g1,g3⟩,fun y hy=>by
   rcases f7.1 hy with rfl|hy
   ·exact g2
   ·exact g4 y hy⟩
def wI(h:FO r' r ok):FO (fJ r') (fJ r) (V1 ok):=⟨rfl,rfl,fun S cs xs ⟨a,cap,e,A,V,h3⟩=>by
 rcases h3 with h3|⟨b,off,c,E,fr,e1,e2,e3⟩
 ·exact⟨⟨a,cap,e,A,V,.inl h3⟩,by omega,fun x D=>by rw [h3]at D;cases D⟩
 ·rw [h.1]at e3
  obtain⟨g1,g2⟩:=FX h e3
  exact⟨⟨a,cap,e,A,V,.inr ⟨b,off,c,E,fr,e1,e2,g1⟩⟩,by omega,g2⟩⟩
def fT{p' p:Rp α}{q' :Rp β}{f:α->Prop}{g:β->Prop}(h:FO p' p f)(k:FO q' q g):FO (bS p' q') (bS p q) (fun x=>f x.1/\g x.2):=
 ⟨by show p'.sz+q'.sz=p.sz+q.sz;rw [h.1,k.1],rfl,fun S cs x ⟨a,b,e,A,V⟩=>⟨⟨a,b,e,(h.2.2 _ _ _ A).1,(k.2.2 _ _ _ V).1⟩,(h.2.2 _ _ _ A).2,(k.2.2 _ _ _ V).2⟩⟩
def oG{p' p:Rp α}{f:β->α}(h:FO p' p ok):FO (j4 p' f) (j4 p f) (fun x=>ok (f x)):=
 ⟨h.1,rfl,fun S cs x k=>h.2.2 _ _ _ k⟩
def Wv(h:FO r' r ok):FO (n7 r' n) (n7 r n) (fun xs=>xs.length=n/\ ∀x∈xs,ok x):=
 ⟨by show n*r'.sz=n*r.sz;rw [h.1],rfl,fun S cs x ⟨A,V⟩=>⟨⟨A,(FX h V).1⟩,A,(FX h V).2⟩⟩
def Lg(h:vU enc P W t r')(hr:FO r' r ok)(hag:r.agg=true){aN:DataW hb}{ps:List MemPlace}(hv:DataW.Trod enc P W 0 (fun _=>true) true t v aN ps)(hc:v= .agg v.cells): ∃y,(K r y).p (KC W) v/\ok y:=by
 obtain⟨fuel,D⟩:=hv
 obtain⟨y,hy⟩:=h.2 _ _ _ D
 obtain⟨g1,g2⟩:=hr.2.2 _ _ _ hy
 exact⟨y,⟨_,by unfold Rp.val;rw [hag,bv rfl];exact hc,g1⟩,g2⟩
def De{l:Array Field}(M:P.underlying t=some (.struct l))(hv:Value.okWide P W .any base t v):v= .agg v.cells:=by
 unfold Value.okWide at hv
 rw [M]at hv
 obtain⟨cs,e,_⟩:=hv
 rw [e]
 rfl
def MU(M:P.underlying t=some (.array n e))(hv:Value.okWide P W .any base t v):v= .agg v.cells:=by
 unfold Value.okWide at hv
 rw [M]at hv
 obtain⟨cs,e,_⟩:=hv
 rw [e]
 rfl
end

variable{Ds:List (DataW Unit)}
section
variable{held:Bool}
def Yi(P:Program)(W:World)(held:Bool)(t:TypeId)(hx:DataW Unit)(cells:List Value):Prop:=
 P.cellsOf t=cells.length/\ ∀fuel cs x,DataW.trod (fun _=>()) P W 0 (fun _=>true) held fuel t cs=some x->x.1=hx->cs=cells
def Kc{n:Int}(h:P.underlying t=some (.int k))(hc:P.cellsOf t=1):Yi P W held t (.lit (.int k n)) [.int k n]:=⟨hc,fun fuel cs x D hD=>by
 obtain⟨m,A,V,_⟩:=DataW.trod_int h D
 subst V
 simp only [DataW.lit.injEq,Lit.int.injEq,true_and]at hD
 rw [A,hD]⟩
def ge{s:List UInt8}(h:P.underlying t=some .string)(hc:P.cellsOf t=1):Yi P W held t (.lit (.string s)) [.string ⟨s.toArray⟩]:=⟨hc,fun fuel cs x D hD=>by
 obtain⟨m,A,V,_⟩:=DataW.trod_string h D
 subst V
 simp only [DataW.lit.injEq,Lit.string.injEq]at hD
 subst hD
 rw [A]⟩
def FC(P:Program)(W:World)(held:Bool)(off:Nat)(l:List (TypeId×Nat))(Ds:List (DataW Unit))(cells:List Value):Prop:=
 ∀(n:Nat) (cs:List Value),cs.length=off+cells.length->(∀(i:Nat) f,l[i]? =some f-> ∃x,DataW.trod (fun _=>()) P W 0 (fun _=>true) held n f.1 ((cs.drop f.2).take (P.cellsOf f.1))=some x/\Ds[i]? =some x.1)->cs.drop off=cells
def HK:FC P W held off [] [] []:=fun n cs hl _=>o6 (by simp at hl;omega)
def eO{off' :Nat}{l:List (TypeId×Nat)}{hx:DataW Unit}{c:List Value}(h:Yi P W held t hx c)(ho:off' =off+c.length)(k:FC P W held off' l Ds cells):FC P W held off ((t,off)::l) (hx::Ds) (c++cells):=fun n cs hl D=>by
 obtain⟨x,A,V⟩:=D 0 (t,off) rfl
 simp only [IT,yv]at V
 have h3:=h.2 n _ x A V.symm
 have h4:=k n cs (by rw [hl,ho,gA];omega) fun i f hf=>by simpa using D (i+1) f (by simpa using hf)
 have e:cs.drop off=(cs.drop off).take (P.cellsOf t)++cs.drop off' :=by
  rw [ho,<-h.1,<-uk,ra]
 rw [e,h4]
 exact congrArg (· ++cells) h3
def Bg{l:List (TypeId×Nat)}(M:(P.underlying t).map (fun aN=>match aN with| .struct l=>(true,l.toList.map fun f=>(f.type,f.offset))|_=>(false,[]))=some (true,l))(hc:P.cellsOf t=cells.length)(hf:FC P W held 0 l Ds cells):Yi P W held t (.agg Ds) cells:=⟨hc,fun fuel cs x D hD=>by
 obtain⟨fs,A,V⟩: ∃fs,P.underlying t=some (.struct fs)/\fs.toList.map (fun f=>(f.type,f.offset))=l:=by
  cases hu:P.underlying t with
  |none=>rw [hu]at M;cases M
  |some aN=>
   rw [hu]at M
   cases aN<;>simp at M
   exact⟨_,rfl,M⟩
 obtain⟨xs,n,rfl,h3,h4,h5,h6⟩:=DataW.trod_struct A D
 rw [h3]at hD
 simp only [DataW.agg.injEq]at hD
 have:=hf n cs (by rw [h4,hc];omega) fun i f hi=>by
  rw [<-V,Dz]at hi
  obtain⟨f0,hf0,rfl⟩:=Qc.1 hi
  have h7:=h6 i f0 (by simpa using hf0)
  have hlt:i<xs.length:=by
   have:=(o5.1 hf0).1
   rw [h5];simpa using this
  rw [qf hlt]at h7
  exact⟨xs[i],h7,by rw [<-hD];simp [hlt]⟩
 rwa [qh]at this⟩
def Qp{m:Nat}(M:P.underlying t=some (.array m e))(hc:P.cellsOf t=cells.length)(hf:FC P W held 0 ((List.range m).map fun i=>(e,i*P.cellsOf e)) Ds cells):Yi P W held t (.agg Ds) cells:=⟨hc,fun fuel cs x D hD=>by
 obtain⟨xs,n,rfl,h3,h4,h5,h6⟩:=DataW.trod_array M D
 rw [h3]at hD
 simp only [DataW.agg.injEq]at hD
 have:=hf n cs (by rw [h4,hc];omega) fun i f hi=>by
  rw [Dz]at hi
  obtain⟨j,hj,rfl⟩:=Qc.1 hi
  obtain⟨hlt,hj2⟩:=o5.1 hj
  simp at hlt hj2
  subst hj2
  have h7:=h6 i hlt
  have hlt' :i<xs.length:=by rw [h5];exact hlt
  rw [qf hlt']at h7
  exact⟨xs[i],h7,by rw [<-hD];simp [hlt']⟩
 rwa [qh]at this⟩
def Mj: ∀{L:List (String×DataW Unit)} {ps:List MemPlace},DataW.LaidVars P W L ps-> ∀n aN,(n,aN)∈L-> ∃g t cs fuel p,P.globalNamed n=some g/\(P.globals[g]?).map (·.type)=some t/\W.var? P n=some cs/\DataW.trod (fun _=>()) P W 0 (fun _=>true) false fuel t cs.toList=some (aN,p)
 |(_,_)::_,_,⟨g,t,cs,fuel,p,_,A,V,h3,h4,_,_⟩,_,_,.head _=>⟨g,t,cs,fuel,p,A,V,h3,h4⟩
 |(_,_)::_,_,⟨_,_,_,_,_,_,_,_,_,_,h,_⟩,n,aN,.tail _ hm=>Mj h n aN hm
def CY{L:List (String×DataW Unit)}(h:laidMet P L W){n:String}{aN:DataW Unit}(hm:(n,aN)∈L){g:Nat}(hg:P.globalNamed n=some g)(M:(P.globals[g]?).map (·.type)=some t)(hc:Yi P W false t aN cells):
  ∃c T fr,W.heap[g]? =some (.cells c T fr)/\c.toList.take cells.length=cells:=by
 obtain⟨ps,hL,_,_⟩:=h
 obtain⟨g',t',cs,fuel,p,A,V,h3,h4⟩:=Mj hL n aN hm
 obtain rfl:=nR (hg.symm.trans A)
 obtain rfl:=nR (M.symm.trans V)
 have h5:=hc.2 fuel _ _ h4 rfl
 unfold World.var? at h3
 rw [hg]at h3
 simp only [aV]at h3
 split at h3
 ·rename_i c T fr H
  cases h3
  exact⟨_,_,_,H,by rw [h5,AA]⟩
 ·cases h3
end

def LY{α:Type}{r:Rp α}(hfree: ∀{S S' :SH} {cs:List Value} {x:α},r.rc S cs x->r.rc S' cs x){S S' :SH}: ∀{xs:List α} {cs:List Value},qc r S cs xs->qc r S' cs xs
 |[],_,h=>h
 |_::_,_,h=>by
  obtain⟨ds,es,A,V,h3⟩:=h
  exact⟨ds,es,A,hfree V,LY hfree h3⟩
def acs{l:Option Nat}(h:Ax mm r T l cap xs w S)(hs:lV w S): ∃S1,qT S S1/\lV w S1/\(K (fJ r) xs).p S1 (Y l cap xs.length):=by
 cases mm with
 |true=>exact⟨S,SH.le_refl _,hs,mq h⟩
 |false=>
  obtain⟨cells,A,V,h3⟩:=h
  cases l with
  |none=>exact⟨S,SH.le_refl _,hs,mq (T:=T) ⟨cells,A,V,fun b H=>(by cases H)⟩⟩
  |some b=>
   obtain⟨cur,g1,g2,g3,g4,g5⟩:=A
   have hoo:Io (.cells cells.toArray T (0,0)) (.cells cur T (0,0)):=by
    refine⟨cur.toList.drop (xs.length*r.sz),?_⟩
    congr 1
    apply Array.ext'
    rw [<-g5,ra]
   have hn:S b=none:=h3 b rfl
   have hle:qT S (S.set b (.cells cells.toArray T (0,0))):=Ah fun q hq=>(by rw [hn]at hq;cases hq)
   have hsat:lV w (S.set b (.cells cells.toArray T (0,0))):=hs.set g1 hoo fun q hq=>by rw [hn]at hq;cases hq
   refine⟨_,hle,hsat,mq (T:=T) ⟨cells,⟨cur,g1,g2,g3,g4,g5⟩,sB hle V,fun b' hb' =>?_⟩⟩
   have hb2:b=b' :=nR hb'
   subst hb2
   exact ox _ _ _
section
variable{ty:TypeId}
end
section
def E6{α:Type}{e:TypeId}{q:Rp α}(hq:vU enc P W e q)(m:Nat): ∀(n:Nat) (cs:List Value),cs.length=n*q.sz->(∀i,i<n-> ∃x,DataW.trod enc P W 0 (fun _=>true) true m e ((cs.drop (i*q.sz)).take q.sz)=some x)-> ∃ys,ys.length=n/\qc q (KC W) cs ys
 |0,cs,hl,_=>⟨[],rfl,wA (by omega)⟩
 |n+1,cs,hl,D=>by
  have hl' :cs.length=n*q.sz+q.sz:=by rw [hl,xX,Nat.one_mul]
  obtain⟨x,h0⟩:=D 0 (by omega)
  rw [Nat.zero_mul,qh]at h0
  obtain⟨y,hy⟩:=hq.2 _ _ _ h0
  obtain⟨ys,A,V⟩:=E6 hq m n (cs.drop q.sz) (by rw [Fn];omega) fun i hi=>by
   obtain⟨x,h3⟩:=D (i+1) (by omega)
   refine⟨x,?_⟩
   rw [uk,show q.sz+i*q.sz=(i+1)*q.sz from by rw [xX,Nat.one_mul];omega]
   exact h3
  exact⟨y::ys,by simp [A],_,_,(ra q.sz cs).symm,hy,V⟩
def Wf{q:Rp α}(h:P.underlying t=some (.array n e))(hc:P.cellsOf t=n*q.sz)(_h0:Nat.blt 0 q.sz=true)(hq:vU enc P W e q):vU enc P W t (n7 q n):=⟨hc,fun fuel cs x D=>by
 obtain⟨xs,m,_,_,h4,h5,h6⟩:=DataW.trod_array h D
 obtain⟨ys,k1,k2⟩:=E6 hq m n cs (by rw [h4,hc]) fun i hi=>by
  have h7:=h6 i hi
  rw [hq.1,qf (by rw [h5];exact hi)]at h7
  exact⟨_,h7⟩
 exact⟨ys,k1,k2⟩⟩
end

section
variable{ty:TypeId}
def hH(hag:r.agg=true)(hr: ∀S,r.rc S [v] y)(h:aL N G x (Z (.agg #[v]))):aL N G x (K r y):=fun S a hf=>⟨[v],by rw [Rp.val,bv hag];exact h S a hf,hr S⟩
end

section
variable{N:Nat}{w0:World}{S0:SH}{fn:Func}{ι:Type}{t:ι->Ty}{O2:ι->List OE}
end

section
variable{ty:TypeId}
end
section
variable{ty:TypeId}
end

def I{α:Sort _}{a:α}:a=a:=rfl
def J:True:=trivial
abbrev br(x:Int):Ty:=K (rI .i64) x
abbrev mb(x:Bool):Ty:=K rB x
abbrev mY{α:Type}(l:List α):Ty:=K (rI .i64) (l.length:Int)
abbrev zzr:Rp (List Int):=fJ (rI .i64)
abbrev yl(l:List Int):Ty:=K (fJ (rI .i64)) l
abbrev jo{α:Type}(r:Rp α)(l:List α):Ty:=K (fJ r) l
abbrev uZ{α:Type}(l:Option Nat)(c:Nat)(xs:List α):Ty:=Z (Y l c xs.length)
def bO: ∀{G' G:lY},G'.map (fun p=>look G p.1)=G'.map (fun p=>some p.2)->RW G' G
 |[],_,_=>trivial
 |(_,_)::_,_,h=>⟨(Cg h).1,bO (Cg h).2⟩

section
variable{ty:TypeId}
def jM{x:Nat}{t:Ty}(h:look G x=some t):ce E O G ⟨dst,.move (.tmp x),ty,pos,after,g⟩ t:=bG (M h)
def IV{x:Nat}{t:Ty}(h:look G x=some t):ce E O G ⟨dst,.assign (.tmp x),ty,pos,after,g⟩ t:=cR (M h)
def zai{n:Int}:ce E O G ⟨dst,.assign (.const (.int k n)),ty,pos,after,g⟩ (K (rI k) n):=cR hI
def zab{b:Bool}:ce E O G ⟨dst,.assign (.const (.bool b)),ty,pos,after,g⟩ (K rB b):=cR hB
def wx{x:α}{p:Nat}(ti:TI E.P U sz bytes agg z)(hp:look G p=some (bt r x))(hs:(r.sz,r.agg)=(sz,agg)):
  ce E O G ⟨dst,.load U (.tmp p),ty,pos,after,g⟩ (K r x):=nO ti (yp hs).1 (yp hs).2 (M hp)
def AC{get:α->β}{x:α}{i:Nat}{p:Nat}(hf:bp E.P T i=some (off,sz))(hq:ju r off q get)(hp:look G p=some (bt r x))(h0:(!(Nat.beq sz 0)&&Nat.ble (off+q.sz) r.sz)=true):ce E O G ⟨dst,.fieldAddr T (.tmp p) i,ty,pos,after,g⟩ (bt q (get x)):=
 kD hf (by cases h:Nat.beq sz 0<;>simp [h]at h0 ⊢) hq (by revert h0;cases Nat.ble (off+q.sz) r.sz<;>simp) (M hp)
def zln{x:Nat}(hu:E.P.underlying t=some (.slice e))(D:look G x=some (K (fJ r) xs)):
  ce E O G ⟨dst,.call ⟨.builtin .len,#[.tmp x],#[t]⟩,ty,pos,after,g⟩ (K (rI .i64) (xs.length:Int)):=oc hu (M D)
def Bd{x:Nat}{i:Nat}{t:Ty}(hi:ts[i]? =some t)(D:look G x=some (tT ts)):ce E O G ⟨dst,.extract (.tmp x) i,ty,pos,after,g⟩ t:=G7 hi (M D)
def zbx{v:α}{x:Nat}(D:look G x=some (K r v)):ce E O G ⟨dst,.box T (.tmp x),ty,pos,after,g⟩ (bt r v):=OF (M D)
def zpa{c x:Nat}{b q:Bool}(hc:look G c=some (K rB b))(D:look G x=some (pG b (K rB q))):ce E O G ⟨dst,.pick (.tmp c) (.tmp x) (.const (.bool false)),ty,pos,after,g⟩ (K rB (b&&q)):=n8 (M hc) (fun H=>df D H)
def zpo{c x:Nat}{b q:Bool}(hc:look G c=some (K rB b))(D:look G x=some (pG (!b) (K rB q))):ce E O G ⟨dst,.pick (.tmp c) (.const (.bool true)) (.tmp x),ty,pos,after,g⟩ (K rB (b||q)):=Sn (M hc) (fun H=>df D (yf H))
variable{xt yt:TypeId}{x y:Nat}{m n:Int}
def zlt(D:look G x=some (K (rI k) m))(hy:look G y=some (K (rI k) n)):ce E O G ⟨dst,.binOp .lss xt (.tmp x) (.tmp y) yt,ty,pos,after,g⟩ (K rB (decide (m<n))):=jh (M D) (M hy)
def zei{j:IntKind}(D:look G x=some (K (rI j) m)):ce E O G ⟨dst,.binOp .eql xt (.tmp x) (.const (.int j n)) yt,ty,pos,after,g⟩ (K rB (m==n)):=sf (M D) hI
def zni{j:IntKind}(D:look G x=some (K (rI j) m)):ce E O G ⟨dst,.binOp .neq xt (.tmp x) (.const (.int j n)) yt,ty,pos,after,g⟩ (K rB (m !=n)):=jg (M D) hI
def Wb{y:α}{x ix:Nat}{k:IntKind}{i:Int}(hu:E.P.underlying t=some (.slice e))(ti:TI E.P e sz bytes agg z)(hsz:r.sz=sz)(D:look G x=some (K (fJ r) xs))(hi:look G ix=some (K (rI k) i))(hy:ep xs i=some y):
  ce E O G ⟨dst,.indexAddr t (.tmp x) (.tmp ix),ty,pos,after,g⟩ (bt r y):=kC hu ti hsz (M D) (M hi) hy
def zin{i:Nat}{x:Nat}{xt yt:TypeId}(hi:i<9223372036854775807)(D:look G x=some (K (rI .i64) (i:Int))):
  ce E O G ⟨dst,.binOp .add xt (.tmp x) (.const (.int .i64 1)) yt,ty,pos,after,g⟩ (K (rI .i64) ((i+1:Nat):Int)):=mh hi (M D) hI
def qX{i o:Nat}{p:Nat}(n:Nat)(hf:bp E.P T i=some (off,sz))(h0:Nat.beq sz 0=false)(hp:look G p=some (Z (al b o)))(he:o+off=n):ce E O G ⟨dst,.fieldAddr T (.tmp p) i,ty,pos,after,g⟩ (Z (al b n)):=dc (n:=n) hf h0 (M hp) he
end
section
variable{l:List Oper}
def zo{ty:TypeId}{t:Ty}(hd:Nat.blt aN E.N.n=true)(h:ce E O G ⟨some aN,op,ty,pos,after,none⟩ t)(k:RG E ops af l O ((aN,t)::G)):
  RG E ops af (⟨some aN,op,ty,pos,after,none⟩::l) O G:=fL h hd k
def wS(n aN:Nat)(r:Option Ty):Option Ty:=if Nat.blt aN n then r else none
def dY{r:Option Ty}{t:Ty}(h:wS n aN r=some t):Nat.blt aN n=true/\r=some t:=by
 unfold wS at h;split at h
 case isTrue A=>exact⟨A,h⟩
 case isFalse=>cases h
def bC{x:Nat}{ty:TypeId}{t:Ty}(h:wS E.N.n aN (look G x)=some t)(k:RG E ops af l O ((aN,t)::G)):
  RG E ops af (⟨some aN,.move (.tmp x),ty,pos,after,none⟩::l) O G:=fL (bG (M (dY h).2)) (dY h).1 k
def lI{x:Nat}{ty:TypeId}{t:Ty}(h:wS E.N.n aN (look G x)=some t)(k:RG E ops af l O ((aN,t)::G)):
  RG E ops af (⟨some aN,.assign (.tmp x),ty,pos,after,none⟩::l) O G:=fL (cR (M (dY h).2)) (dY h).1 k
def co{y:Code}(h:CG E af y O G):RG E ops (Exit.then (y.wpIn (fw E.r) 0 E.P af) af) [] O G:=bu (aC h)
def bA{id:Nat}{l:List Oper}{y:Code}(h:RG E l.toArray (Exit.then (y.wpIn (fw E.r) 0 E.P af) af) l O G):CG E af (.seq (.region id l.toArray false) y) O G:=aE (aO h)
def u7{β:Type _}{X aa:Option β}{r:β}{c:Nat}{x y:Code}{b:Bool}(h:(if b=true then X else aa)=some r)(H:look G c=some (K rB b))(D:X=some r->CG E af x O G)(hy:aa=some r->CG E af y O G):CG E af (.cond (.tmp c) x y) O G:=
 tX (M H) (fun hc=>D (ct h hc)) (fun hc=>hy (cf h hc))
def nG{y:Code}(h:CG E af y O G):CG E (Exit.then (y.wpIn (fw E.r) 0 E.P af) af) .skip O G:=ck (aC h)
def zgt{j gs:Nat}{b:Bool}{ty:TypeId}{t:Ty}(hj:(ops[j]?).bind (·.dst)=some gs)(hg:wS E.N.n gs (wS E.N.n aN (look G gs))=some (K rB b))(h:b=true->ce E O G ⟨some aN,op,ty,pos,after,some (j,true)⟩ t)(k:RG E ops af l O ((aN,pG b t)::G)):RG E ops af (⟨some aN,op,ty,pos,after,some (j,true)⟩::l) O G:=XN hj (dY hg).1 (dY (dY hg).2).2 (dY (dY hg).2).1 h k
def zgf{j gs:Nat}{b:Bool}{ty:TypeId}{t:Ty}(hj:(ops[j]?).bind (·.dst)=some gs)(hg:wS E.N.n gs (wS E.N.n aN (look G gs))=some (K rB b))(h:(!b)=true->ce E O G ⟨some aN,op,ty,pos,after,some (j,false)⟩ t)(k:RG E ops af l O ((aN,pG (!b) t)::G)):RG E ops af (⟨some aN,op,ty,pos,after,some (j,false)⟩::l) O G:=XO hj (dY hg).1 (dY (dY hg).2).2 (dY (dY hg).2).1 h k
end
def cV{α:Type _}{β:Type _}{x:Option α}{k:α->Option β}{r:β}{P:Prop}(h:x.bind k=some r)(f: ∀y,x=some y->k y=some r->P):P:=by
 obtain⟨y,A,V⟩:=bs h;exact f y A V
variable{u1:Ty}
section
variable{l:List Oper}{i:Nat}{t:Ty}
def Lh{a b c:Bool}(h:(a&&b&&c)=true):a=true/\b=true/\c=true:=by revert h;cases a<;>cases b<;>cases c<;>simp
def isn{x:Option α}(h:x.isNone=true):x=none:=by cases x;rfl;cases h
def zd0(h:ts[i]? =some t)(k:ce E O [] o t)(H:(fK i o&&o.guard.isNone)=true:=by exact rfl): ∃(needs:List Nd) (t:Ty),ts[i]? =some t/\tm G ts needs/\(needs.all (pH l o i))=true/\fK i o=true/\bj E O l.toArray (j9 needs) o t:=
 ⟨[],t,h,trivial,rfl,(ES.1 H).1,aK (isn (ES.1 H).2) k⟩
def DF(a:Nat){u:Ty}(h:ts[i]? =some t)(hu:Dt G ts ⟨a,u,none⟩)(k:ce E O [(a,u)] o t)(H:([(⟨a,u,none⟩:Nd)].all (pH l o i)&&fK i o&&o.guard.isNone)=true:=by exact rfl): ∃(needs:List Nd) (t:Ty),ts[i]? =some t/\tm G ts needs/\(needs.all (pH l o i))=true/\fK i o=true/\bj E O l.toArray (j9 needs) o t:=
 ⟨[(⟨a,u,none⟩:Nd)],t,h,⟨hu,trivial⟩,(Lh H).1,(Lh H).2.1,aK (isn (Lh H).2.2) k⟩
def mU(a:Nat)(j:Nat){u:Ty}(h:ts[i]? =some t)(hu:Dt G ts ⟨a,u,(some j)⟩)(k:ce E O [(a,u)] o t)(H:([(⟨a,u,(some j)⟩:Nd)].all (pH l o i)&&fK i o&&o.guard.isNone)=true:=by exact rfl): ∃(needs:List Nd) (t:Ty),ts[i]? =some t/\tm G ts needs/\(needs.all (pH l o i))=true/\fK i o=true/\bj E O l.toArray (j9 needs) o t:=
 ⟨[(⟨a,u,(some j)⟩:Nd)],t,h,⟨hu,trivial⟩,(Lh H).1,(Lh H).2.1,aK (isn (Lh H).2.2) k⟩
def RI(a:Nat)(a1:Nat)(j1:Nat){u:Ty}(h:ts[i]? =some t)(hu:Dt G ts ⟨a,u,none⟩)(hu1:Dt G ts ⟨a1,u1,(some j1)⟩)(k:bj E O l.toArray [(a,u),(a1,u1)] o t)(H:([(⟨a,u,none⟩:Nd),⟨a1,u1,(some j1)⟩].all (pH l o i)&&fK i o)=true:=by exact rfl): ∃(needs:List Nd) (t:Ty),ts[i]? =some t/\tm G ts needs/\(needs.all (pH l o i))=true/\fK i o=true/\bj E O l.toArray (j9 needs) o t:=
 ⟨[(⟨a,u,none⟩:Nd),⟨a1,u1,(some j1)⟩],t,h,⟨hu,hu1,trivial⟩,(ES.1 H).1,(ES.1 H).2,k⟩
def ma(a:Nat)(j:Nat)(a1:Nat)(j1:Nat){u:Ty}(h:ts[i]? =some t)(hu:Dt G ts ⟨a,u,(some j)⟩)(hu1:Dt G ts ⟨a1,u1,(some j1)⟩)(k:ce E O [(a,u),(a1,u1)] o t)(H:([(⟨a,u,(some j)⟩:Nd),⟨a1,u1,(some j1)⟩].all (pH l o i)&&fK i o&&o.guard.isNone)=true:=by exact rfl): ∃(needs:List Nd) (t:Ty),ts[i]? =some t/\tm G ts needs/\(needs.all (pH l o i))=true/\fK i o=true/\bj E O l.toArray (j9 needs) o t:=
 ⟨[(⟨a,u,(some j)⟩:Nd),⟨a1,u1,(some j1)⟩],t,h,⟨hu,hu1,trivial⟩,(Lh H).1,(Lh H).2.1,aK (isn (Lh H).2.2) k⟩
def Fu(a:Nat)(j:Nat)(a1:Nat)(j1:Nat){u:Ty}(h:ts[i]? =some t)(hu:Dt G ts ⟨a,u,(some j)⟩)(hu1:Dt G ts ⟨a1,u1,(some j1)⟩)(k:bj E O l.toArray [(a,u),(a1,u1)] o t)(H:([(⟨a,u,(some j)⟩:Nd),⟨a1,u1,(some j1)⟩].all (pH l o i)&&fK i o)=true:=by exact rfl): ∃(needs:List Nd) (t:Ty),ts[i]? =some t/\tm G ts needs/\(needs.all (pH l o i))=true/\fK i o=true/\bj E O l.toArray (j9 needs) o t:=
 ⟨[(⟨a,u,(some j)⟩:Nd),⟨a1,u1,(some j1)⟩],t,h,⟨hu,hu1,trivial⟩,(ES.1 H).1,(ES.1 H).2,k⟩
def XS(a:Nat)(j:Nat)(a1:Nat)(j1:Nat)(a2:Nat)(j2:Nat){u:Ty}{u2:Ty}(h:ts[i]? =some t)(hu:Dt G ts ⟨a,u,(some j)⟩)(hu1:Dt G ts ⟨a1,u1,(some j1)⟩)(hu2:Dt G ts ⟨a2,u2,(some j2)⟩)(k:bj E O l.toArray [(a,u),(a1,u1),(a2,u2)] o t)(H:([(⟨a,u,(some j)⟩:Nd),⟨a1,u1,(some j1)⟩,⟨a2,u2,(some j2)⟩].all (pH l o i)&&fK i o)=true:=by exact rfl): ∃(needs:List Nd) (t:Ty),ts[i]? =some t/\tm G ts needs/\(needs.all (pH l o i))=true/\fK i o=true/\bj E O l.toArray (j9 needs) o t:=
 ⟨[(⟨a,u,(some j)⟩:Nd),⟨a1,u1,(some j1)⟩,⟨a2,u2,(some j2)⟩],t,h,⟨hu,hu1,hu2,trivial⟩,(ES.1 H).1,(ES.1 H).2,k⟩
end
end Go.Proofs.YtigldkegamffhaaGreatDoor

