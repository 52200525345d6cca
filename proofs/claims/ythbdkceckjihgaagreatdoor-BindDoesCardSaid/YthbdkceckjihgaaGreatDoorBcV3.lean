/- dm of this claim: W33, W34, W35, W36, W37, W38, W39, W40, W48, W50, W51, W41, W42, W43, W21, W27, W45, W46, W47, W52, W53, W56, W57. -/
import Derived.Test.YthbdkceckjihgaaGreatDoorBcV2
import Derived.Lib.Bytealg
import Derived.Maps.Range
import Derived.Laws.IdiomRangeMap
import Derived.Test.YthbdkceckjihgaaGreatDoorBcV1
import Derived.Laws.BytesString
import Derived.Below
import Derived.ProofKit
import Derived.OpenShut
import Derived.LaidMore
import Derived.Laws.Externs
set_option linter.all false
namespace Go.Proofs.YthbdkceckjihgaaGreatDoor
open Go

def zw(N:Nat):List Nat->List Oper->Bool
 |_,[]=>true
 |seen,o::rest=>match o.dst with
  |some ah=>Nat.blt ah N&& !(seen.any (Nat.beq ah))&&zw N (ah::seen) rest
  |none=>zw N seen rest
variable{N:Fr}{β:Type}{ah:Nat}{j:Int}{o:Oper}{p:Operand}{q:Rp β}
def EK{N:Nat}(l:List Oper): ∀(seen:List Nat),zw N seen l=true->
  (∀o:Oper,o∈l-> ∀ah,o.dst=some ah->ah<N/\ah∉seen)/\ ∀(i j:Nat) (o p:Oper) (ah:Nat),l[i]? =some o->l[j]? =some p->o.dst=some ah->p.dst=some ah->i=j:=by
 induction l with
 |nil=>exact fun _ _=>⟨fun _ h=>(by cases h),fun _ _ _ _ _ h=>(by simp at h)⟩
 |cons o l ih=>
  intro seen h
  unfold zw at h
  cases hd:o.dst with
  |none=>
   rw [hd]at h
   obtain⟨H,J⟩:=ih seen h
   refine⟨fun q hq ah hqd=>?_,fun i j p q ah hi hj hp hq=>?_⟩
   ·rcases gn.1 hq with rfl|hq
    ·rw [hd]at hqd;cases hqd
    ·exact H q hq ah hqd
   ·cases i with
    |zero=>simp at hi;subst hi;rw [hd]at hp;cases hp
    |succ i=>
     cases j with
     |zero=>simp at hj;subst hj;rw [hd]at hq;cases hq
     |succ j=>rw [J i j p q ah (by simpa using hi) (by simpa using hj) hp hq]
  |some d0=>
   rw [hd]at h
   simp only [jM,tM,zh]at h
   obtain⟨⟨g1,g2⟩,g3⟩:=h
   obtain⟨H,J⟩:=ih (d0::seen) g3
   have hns:d0∉seen:=fun hm=>by
    have:seen.any (Nat.beq d0)=true:=EZ.2 ⟨d0,hm,Nat.beq_refl d0⟩
    rw [this]at g2;cases g2
   refine⟨fun q hq ah hqd=>?_,fun i j p q ah hi hj hp hq=>?_⟩
   ·rcases gn.1 hq with rfl|hq
    ·rw [hd]at hqd;cases hqd;exact⟨g1,hns⟩
    ·obtain⟨k1,k2⟩:=H q hq ah hqd
     exact⟨k1,fun hm=>k2 (oO _ hm)⟩
   ·cases i with
    |zero=>
     cases j with
     |zero=>rfl
     |succ j=>
      simp at hi;subst hi
      rw [hd]at hp;cases hp
      exact absurd (oh ..) (H q (uo (by simpa using hj)) d0 hq).2
    |succ i=>
     cases j with
     |zero=>
      simp at hj;subst hj
      rw [hd]at hq;cases hq
      exact absurd (oh ..) (H p (uo (by simpa using hi)) d0 hp).2
     |succ j=>rw [J i j p q ah (by simpa using hi) (by simpa using hj) hp hq]
def LM:List Oper->List Ty->mM->mM
 |o::l,t::ts,G=>match o.dst with
  |some ah=>(ah,t)::LM l ts G
  |none=>LM l ts G
 |_,_,G=>G
variable{G:mM}{e:TypeId}{k:IntKind}{t:TypeId}{ts:List Ty}{u:Value}
def I6(l:List Oper): ∀(ts:List Ty) (k:Nat) (t:Ty),ts.length=l.length->look (LM l ts G) k=some t->
  (∃(j:Nat) (o:Oper),l[j]? =some o/\o.dst=some k/\ts[j]? =some t)\/(look G k=some t/\ ∀o:Oper,o∈l->o.dst≠some k):=by
 induction l with
 |nil=>
  intro ts k t hl h
  have:ts=[]:=y9 (by simpa using hl)
  subst this
  exact .inr ⟨h,fun _ h=>(by cases h)⟩
 |cons o l ih=>
  intro ts k t hl h
  cases ts with
  |nil=>simp at hl
  |cons u ts=>
   unfold LM at h
   have hl' :ts.length=l.length:=by simpa using hl
   have lift:((∃(j:Nat) (p:Oper),l[j]? =some p/\p.dst=some k/\ts[j]? =some t)\/(look G k=some t/\ ∀p:Oper,p∈l->p.dst≠some k))->o.dst≠some k->
     (∃(j:Nat) (p:Oper),(o::l)[j]? =some p/\p.dst=some k/\(u::ts)[j]? =some t)\/(look G k=some t/\ ∀p:Oper,p∈o::l->p.dst≠some k):=by
    rintro(⟨j,p,H,J,h3⟩|⟨H,J⟩) hne
    ·exact .inl ⟨j+1,p,by simpa using H,J,by simpa using h3⟩
    ·exact .inr ⟨H,fun p hp=>(gn.1 hp).elim (fun e=>by subst e;exact hne) (J p)⟩
   cases hd:o.dst with
   |none=>
    rw [hd]at h
    exact lift (ih ts k t hl' h) (by rw [hd];exact fun e=>by cases e)
   |some ah=>
    rw [hd]at h
    simp only at h
    unfold look at h
    by_cases A:Nat.beq ah k=true
    ·rw [A]at h
     have:=qZ A
     subst this
     have e:u=t:=by simpa using h
     subst e
     exact .inl ⟨0,o,rfl,hd,rfl⟩
    ·rw [DB]at A
     rw [A]at h
     refine lift (ih ts k t hl' h) ?_
     rw [hd]
     intro e
     have:ah=k:=rC e
     subst this
     simp at A
abbrev TS:=List Nat×(List OI->Ty)
def TS.at(p:TS)(σ:Nat->OI):Ty:=p.2 (p.1.map σ)
def tc(t:Ty):TS:=([],fun _=>t)
def Sn(Ss:List ((Nat->OI)->List OE))(c:Nat)(σ:Nat->OI):List OE:=match Ss[c]? with|some f=>f σ|none=>[]
structure NS where
 slot:Nat
 ty:(Nat->OI)->Ty
 src:Option Nat
def NS.at(n:NS)(σ:Nat->OI):Nd:=⟨n.slot,n.ty σ,n.src⟩
def WP(G:mM)(ts:List TS)(n:NS):Prop:=
 match n.src with
 |some j=> ∀σ,(ts[j]?).map (fun p=>p.at σ)=some (n.ty σ)
 |none=> ∀σ,look G n.slot=some (n.ty σ)
def yX(G:mM)(ts:List TS):List NS->Prop
 |[]=>True
 |n::l=>WP G ts n/\yX G ts l
variable{n:Nat}
def yX.mem{ts:List TS}: ∀{l:List NS},yX G ts l-> ∀n∈l,WP G ts n
 |_::_,⟨h,_⟩,_,.head _=>h
 |_::_,⟨_,h⟩,_,.tail _ hm=>yX.mem h _ hm
def yP(l:List NS)(σ:Nat->OI):mM:=kG (l.map (·.at σ))
def UB(ts:List TS)(σ:Nat->OI):List Ty:=ts.map fun p=>p.at σ
def RX(L:List Oper)(es:List Bool)(i:Nat)(p:TS):Bool:=p.1.all fun k=>(es[k]?).getD false&&(Nat.beq k i||o0 L L.length i k)
def XW(L:List Oper)(es:List Bool)(i lo hi:Nat):Bool:=
 Nat.ble lo (ii es es.length)&&(List.range es.length).all fun k=> !((es[k]?).getD false)||((Nat.ble lo (ii es k)||o0 L L.length i k)&&(Nat.blt (ii es k) hi||o0 L L.length k i))
def DS(E:En)(G:mM)(L:List Oper)(ts:List TS)(Ss:List ((Nat->OI)->List OE))(es0:List Bool):Nat->Nat->List Oper->List Bool->Prop
 |_,_,[],_=>True
 |i,c,o::rest,false::es=>(∃(needs:List NS) (t:TS) (lo hi:Nat),ts[i]? =some t/\yX G ts needs/\(needs.all fun n=>q0 L o i (n.at fun _=>oD))=true/\ft i o=true/\RX L es0 i t=true/\XW L es0 i lo hi=true/\o.dst.isSome=true/\
   ∀c σ,lo<=c->c<=hi->bg E (Sn Ss c σ) L.toArray (yP needs σ) o (t.at σ))/\DS E G L ts Ss es0 (i+1) c rest es
 |i,c,o::rest,true::es=>(∃(needs:List NS) (t:TS),ts[i]? =some t/\yX G ts needs/\(needs.all fun n=>q0 L o i (n.at fun _=>oD))=true/\ft i o=true/\RX L es0 i t=true/\
   ∀σ,iC E L.toArray (Sn Ss c σ) (yP needs σ) o (fun x=>Sn Ss (c+1) (upd σ i x)) (fun x=>t.at (upd σ i x)))/\DS E G L ts Ss es0 (i+1) (c+1) rest es
 |_,_,_::_,[]=>False
variable{E:En}{L:List Oper}{Ss:List ((Nat->OI)->List OE)}{c:Code}{es:List Bool}{lo:Int}{α:Type}{r:Rp α}{x:Operand}{σ:Nat->OI}
def DS.get{ts:List TS}{es0:List Bool}: ∀(r:List Oper) (es:List Bool) (k c:Nat),DS E G L ts Ss es0 k c r es-> ∀(j:Nat) (o:Oper),r[j]? =some o->
    ∃e,es[j]? =some e/\ ∃(needs:List NS) (t:TS),ts[k+j]? =some t/\yX G ts needs/\(needs.all fun n=>q0 L o (k+j) (n.at fun _=>oD))=true/\ft (k+j) o=true/\RX L es0 (k+j) t=true/\
      (match e with
       |false=>o.dst.isSome=true/\ ∃lo hi,XW L es0 (k+j) lo hi=true/\ ∀c σ,lo<=c->c<=hi->bg E (Sn Ss c σ) L.toArray (yP needs σ) o (t.at σ)
       |true=> ∀σ,iC E L.toArray (Sn Ss (c+ii es j) σ) (yP needs σ) o (fun x=>Sn Ss (c+ii es j+1) (upd σ (k+j) x)) (fun x=>t.at (upd σ (k+j) x))):=by
  intro r
  induction r with
  |nil=>intro es k c _ j o h;simp at h
  |cons p r ih=>
    intro es k c h j o ho
    cases es with
    |nil=>exact h.elim
    |cons e es=>
      cases e with
      |false=>
        obtain⟨⟨needs,t,lo,hi,g1,g2,g3,g4,g5,g6,g7,g8⟩,J⟩:=h
        cases j with
        |zero=>
          simp at ho;subst ho
          exact⟨false,rfl,needs,t,g1,g2,g3,g4,g5,g7,lo,hi,g6,g8⟩
        |succ j=>
          obtain⟨e',g1,g2⟩:=ih es (k+1) _ J j o (by simpa using ho)
          refine⟨e',by simpa using g1,?_⟩
          rw [show k+1+j=k+(j+1)from by omega]at g2
          have e1:c+ii (false::es) (j+1)=c+ii es j:=by simp [ii]
          rw [e1];exact g2
      |true=>
        obtain⟨H,J⟩:=h
        cases j with
        |zero=>
          simp at ho;subst ho
          exact⟨true,rfl,H⟩
        |succ j=>
          obtain⟨e',g1,g2⟩:=ih es (k+1) _ J j o (by simpa using ho)
          refine⟨e',by simpa using g1,?_⟩
          rw [show k+1+j=k+(j+1)from by omega]at g2
          have e1:c+ii (true::es) (j+1)=c+1+ii es j:=by simp [ii];omega
          rw [e1];exact g2
structure XJ(E:En)(G:mM)(l:List Oper)(ts:List TS)(Ss:List ((Nat->OI)->List OE))(es:List Bool)(done:Array Bool)(a:Act)(w:World)(S:SH)(σ:Nat->OI)(c:Nat):Prop where
 ext:lq E.B E.w0 E.S0 w S
 sat:mU w S
 own:dA E.base E.B w S (Sn Ss c σ)
 size:a.tmps.size=E.N.n
 defers:a.defers=E.N.ds
 dsz:done.size=l.length
 down: ∀j o,l[j]? =some o->done.getD j false=true-> ∀e∈o.after,Region.binds .any e=true->done.getD e.on false=true
 old: ∀k t,look G k=some t->(∀j o,l[j]? =some o->done.getD j false=true->o.dst≠some k)->t.p S (a.tmps.getD k undef)
 new: ∀j o ah p,l[j]? =some o->done.getD j false=true->o.dst=some ah->ts[j]? =some p->(p.at σ).p S (a.tmps.getD ah undef)
 deps: ∀j p,done.getD j false=true->ts[j]? =some p-> ∀k∈p.1,done.getD k false=true
 chain: ∀k,es[k]? =some true->(done.getD k false=true↔ii es k<c)
variable{S S' :SH}{a:Act}{b:Nat}{done:Array Bool}{f:FuncId}{κ:Type}{m:List (κ×β)}{v:Value}{w w' :World}
section
variable{ts:List TS}
def XJ.need{c:Nat}(h:XJ E G L ts Ss es done a w S σ c){i:Nat}(hi:L[i]? =some o)(hun:done.getD i true=false)(hwait: ∀e∈o.after,Region.binds .any e=true->done.getD e.on false=true){needs:List NS}(H:yX G ts needs)(J:(needs.all fun n=>q0 L o i (n.at fun _=>oD))=true):dm E.N S a (yP needs σ):=by
 have hlt:i<done.size:=by rw [h.dsz];exact(kN.1 hi).1
 have hun' :done.getD i false=false:=by
  simp [hlt]at hun ⊢;exact hun
 refine⟨h.size,h.defers,?_⟩
 have key: ∀n∈needs,(n.ty σ).p S (a.tmps.getD n.slot undef):=by
  intro n hn
  have hs:=ph.1 J n hn
  have ho:=H.mem n hn
  unfold q0 NS.at at hs
  unfold WP at ho
  cases hsrc:n.src with
  |some j=>
   rw [hsrc]at hs ho
   simp only [jM]at hs
   obtain⟨hs1,hs2⟩:=hs
   cases hj:L[j]? with
   |none=>rw [hj]at hs1;cases hs1
   |some p=>
    rw [hj]at hs1
    cases hd:p.dst with
    |none=>simp only [hd]at hs1;cases hs1
    |some ah=>
     simp only [hd]at hs1
     have hd' :=qZ hs1
     subst hd'
     have hdone:done.getD j false=true:=by
      unfold EH at hs2
      obtain⟨e,he0,A⟩:=EZ.1 hs2
      have he:e∈o.after:=by simpa using he0
      simp only [jM]at A
      have:=hwait e he A.2
      rwa [qZ A.1]at this
     have hm:=ho σ
     cases hf:ts[j]? with
     |none=>rw [hf]at hm;simp at hm
     |some f=>
      rw [hf]at hm
      have e:f.at σ=n.ty σ:=by simpa using hm
      rw [<-e]
      exact h.new j p n.slot f hj hdone hd hf
  |none=>
   rw [hsrc]at hs ho
   refine h.old _ _ (ho σ) fun j p hj hdone hd=>?_
   have:=ph.1 hs p (uo hj)
   simp only [hd,Nat.beq_refl,qY,Bs]at this
   unfold EH at this
   obtain⟨e,he0,A⟩:=EZ.1 this
   have he:e∈p.after:=by simpa using he0
   simp only [jM]at A
   have h3:=h.down j p hj hdone e he A.2
   rw [qZ A.1]at h3
   rw [h3]at hun'
   cases hun'
 clear H J
 intro k t hk
 unfold yP at hk
 induction needs with
 |nil=>simp [kG,look]at hk
 |cons n needs ih=>
  simp only [uM]at hk
  unfold kG look at hk
  by_cases A:Nat.beq n.slot k=true
  ·have hb' :Nat.beq (n.at σ).slot k=true:=A
   rw [hb']at hk
   have:=qZ A
   subst this
   have h9:some (n.at σ).ty=some t:=by simpa using hk
   have e:n.ty σ=t:=rC h9
   rw [<-e]
   exact key n (oh ..)
  ·rw [DB]at A
   have hb' :Nat.beq (n.at σ).slot k=false:=A
   rw [hb']at hk
   exact ih (fun m hm=>key m (oO _ hm)) hk
def XJ.step{σ' :Nat->OI}{c c' :Nat}(h:XJ E G L ts Ss es done a w S σ c){i:Nat}{p0:TS}{C:Nat->Prop}(hi:L[i]? =some o)(hdN: ∀ah,o.dst=some ah->ah<E.N.n)(hs2: ∀ah,o.dst=some ah-> ∀j p,L[j]? =some p->done.getD j false=true->p.dst=some ah->i=j)(hwait: ∀e∈o.after,Region.binds .any e=true->done.getD e.on false=true)(M:ts[i]? =some p0)(hun:done.getD i true=false)(hdep: ∀k∈p0.1,k=i\/done.getD k false=true)(hext:lq C w S w' S')(hC: ∀b,C b->E.base<=b\/E.B b)(hsat:mU w' S')(hown:dA E.base E.B w' S' (Sn Ss c' σ'))(hσ: ∀k,k≠i->σ' k=σ k)(hv:(p0.at σ').p S' v)(hch: ∀k,es[k]? =some true->((done.setIfInBounds i true).getD k false=true↔ii es k<c')):
  XJ E G L ts Ss es (done.setIfInBounds i true) (a.put o.dst v) w' S' σ' c' :=by
 have hlt:i<done.size:=by rw [h.dsz];exact(kN.1 hi).1
 have hset: ∀j,(done.setIfInBounds i true).getD j false=true->j=i\/done.getD j false=true:=fun j hj=>by
  by_cases hij:i=j
  ·exact .inl hij.symm
  ·rw [yK false hij]at hj;exact .inr hj
 have hseti:(done.setIfInBounds i true).getD i false=true:=by simp [hlt]
 have hun' :done.getD i false=false:=by simp [hlt]at hun ⊢;exact hun
 have hput: ∀k,(∀ah,o.dst=some ah->ah≠k)->(a.put o.dst v).tmps.getD k undef=a.tmps.getD k undef:=fun k hk=>by
  cases hd:o.dst with
  |none=>rfl
  |some ah=>
   have hda:ah<a.tmps.size:=by rw [h.size];exact hdN ah hd
   rw [wx hda,cm (hk ah hd)]
 refine⟨h.ext.step hext hC,hsat,hown,?_,?_,by simp [h.dsz],fun j p hj hdone e he A=>?_,fun k u hk hno=>?_,fun j p d' u hj hdone hd' hu=>?_,fun j u hj hu k hk=>?_,hch⟩
 ·cases o.dst with
  |none=>exact h.size
  |some ah=>simp [Act.put,h.size]
 ·cases o.dst with
  |none=>exact h.defers
  |some ah=>exact h.defers
 ·rcases hset j hdone with rfl|hj'
  ·rw [hi]at hj
   have:o=p:=by simpa using hj
   subst this
   exact AP (hwait e he A)
  ·exact AP (h.down j p hj hj' e he A)
 ·rw [hput k fun ah hd e=>hno i o hi hseti (by rw [hd,e])]
  exact u.mono hext.keep (h.old k u hk fun j p hj hdone=>hno j p hj (AP hdone))
 ·by_cases hij:j=i
  ·subst hij
   rw [hi]at hj
   have:o=p:=by simpa using hj
   subst this
   have hda:d' <a.tmps.size:=by rw [h.size];exact hdN d' hd'
   rw [hd',wx hda,cx rfl]
   rw [M]at hu
   have:p0=u:=by simpa using hu
   subst this
   exact hv
  ·have hj' :=(hset j hdone).resolve_left hij
   rw [hput d' fun ah hd e=>by subst e;exact hij (hs2 ah hd j p hj hj' hd').symm]
   have e1:u.at σ' =u.at σ:=congrArg u.2 (List.map_congr_left fun k hk=>hσ k fun e=>by
     subst e
     rw [h.deps j u hj' hu k hk]at hun';cases hun')
   rw [e1]
   exact Ty.mono _ hext.keep (h.new j p d' u hj hj' hd' hu)
 ·rcases hset j hj with rfl|hj'
  ·rw [M]at hu
   have:p0=u:=by simpa using hu
   subst this
   rcases hdep k hk with rfl|h'
   ·exact hseti
   ·exact AP h'
  ·exact AP (h.deps j u hj' hu k hk)
end
variable{aC:Exit->Act->World->Prop}
def K0{l t:List Oper}{ts:List TS}(hsl:zw E.N.n [] l=true)(hlen:ts.length=l.length)(hesl:es.length=l.length)(hd:DS E G (l++t) ts Ss es 0 0 l es)(hch:OF (l++t) es=true)(M:Ba (l++t) l.length t.length=true)(hQ: ∀a w S σ,St E (Sn Ss (ii es es.length) σ) (LM l (UB ts σ) G) a w S->wpListIn (fw E.r) 0 E.P (l++t).toArray aC t a w):
  ∀(fuel:Nat) (done:Array Bool) (a:Act) (w:World) (S:SH) (σ:Nat->OI) (c:Nat),mN done=fuel->(∀j,l.length<=j->done.getD j false=false)->c<=ii es es.length->XJ E G (l++t) ts Ss es done a w S σ c->wpAnyIn (fw E.r) 0 E.P .any (l++t).toArray aC fuel done a w:=by
 have hL1: ∀i o,i<l.length->(l++t)[i]? =some o->l[i]? =some o:=fun i o hi h=>by rwa [Cq hi]at h
 have hL2: ∀i o,l[i]? =some o->(l++t)[i]? =some o:=fun i o h=>by rw [Cq (kN.1 h).1];exact h
 have htail: ∀m o,l.length<=m->(l++t)[m]? =some o->yx (l++t) m=true/\ft m o=true:=fun m o hm ho=>by
  have hml:m<(l++t).length:=(kN.1 ho).1
  rw [pg]at hml
  unfold Ba at M
  have:=ph.1 M (m-l.length) (by simp;omega)
  rw [show l.length+(m-l.length)=m from by omega,ho]at this
  simp only [jM]at this
  exact⟨this.1,this.2.1⟩
 have hget:=fun i o (hi:l[i]? =some o)=>DS.get l es 0 0 hd i o hi
 have hedge: ∀i o,(l++t)[i]? =some o->ft i o=true:=fun i o hi=>by
  rcases oP i l.length with h|h
  ·obtain⟨_,_,_,_,_,_,_,h,_⟩:=hget i o (hL1 i o h hi)
   simpa using h
  ·exact(htail i o h hi).2
 obtain⟨hs1,hs2⟩:=EK l [] hsl
 have fin: ∀fuel done a w S σ c,mN done=fuel->(∀j,l.length<=j->done.getD j false=false)->c<=ii es es.length->XJ E G (l++t) ts Ss es done a w S σ c->(∀i,i<l.length->done.getD i false=true)->wpAnyIn (fw E.r) 0 E.P .any (l++t).toArray aC fuel done a w:=by
  intro fuel done a w S σ c hu hfree hcle h hall
  have hcc:c=ii es es.length:=by
   rcases oP c (ii es es.length)with hlt|hge
   ·obtain⟨i,H,J,h3⟩:=yE hlt
    have:=(h.chain i J).1 (hall i (by omega))
    omega
   ·omega
  subst hcc
  refine BB (n:=l.length) (fun m o hm ho=>(htail m o hm ho).1) hedge t l.length done fuel a w (f7 _) (by simp) h.dsz (fun j hj=>⟨fun hjd=>?_,fun hlt=>hall j hlt⟩) hu
   (hQ a w S σ ⟨h.ext,h.sat,h.own,h.size,h.defers,fun j u hj=>?_⟩)
  ·rcases oP j l.length with h' |h'
   ·exact h'
   ·rw [hfree j h']at hjd;cases hjd
  ·rcases I6 l (UB ts σ) j u (by unfold UB;rw [A2];exact hlen) hj with⟨i,o,H,J,h3⟩|⟨H,J⟩
   ·unfold UB at h3
    rw [Iw]at h3
    cases hf:ts[i]? with
    |none=>rw [hf]at h3;simp at h3
    |some f=>
     rw [hf]at h3
     have e:f.at σ=u:=by simpa using h3
     rw [<-e]
     exact h.new i o j f (hL2 i o H) (hall i (kN.1 H).1) J hf
   ·refine h.old j u H fun i o ho hdn=>?_
    rcases oP i l.length with h' |h'
    ·exact J o (uo (hL1 i o h' ho))
    ·rw [hfree i h']at hdn;cases hdn
 have lower: ∀done a w S σ c i,(∀j,l.length<=j->done.getD j false=false)->XJ E G (l++t) ts Ss es done a w S σ c->i∈Region.ready .any (l++t).toArray done->l.length<=i-> ∀j,j<l.length->done.getD j false=true:=by
  intro done a w S σ c i hfree h hi hge j hj
  obtain⟨hun,p,hp,hwait⟩:=vA.1 hi
  have hp' :(l++t)[i]? =some p:=by simpa using hp
  have hcov:=(htail i p hge hp').1
  unfold yx at hcov
  have hre:=ph.1 hcov j (by simp;omega)
  exact gW h.down _ i j (fun q hq e he A=>by
   have:q=p:=by rw [hp']at hq;simpa using hq.symm
   subst this
   exact hwait e he A) hre
 have hchain: ∀i j,j<i->es[i]? =some true->es[j]? =some true->o0 (l++t) (l++t).length i j=true:=fun i j hij H J=>by
  unfold OF at hch
  have hil:i<es.length:=(kN.1 H).1
  have:=ph.1 (ph.1 hch i (by simpa using hil)) j (by simpa using hij)
  rw [H,J]at this
  simpa using this
 intro fuel
 induction fuel with
 |zero=>
  intro done a w S σ c hu hfree hcle h
  exact fin 0 done a w S σ c hu hfree hcle h fun i hi=>wn hu (by rw [h.dsz,pg];omega)
 |succ fuel ih=>
  intro done a w S σ c hu hfree hcle h
  by_cases hall: ∀i,i<l.length->done.getD i false=true
  ·exact fin _ done a w S σ c hu hfree hcle h hall
  have hready0: ∀m i,i<m->i<l.length->Region.ready .any (l++t).toArray done=[]->done.getD i false=true:=by
   intro m
   induction m with
   |zero=>intro i h;omega
   |succ m ihm=>
    intro i him hil hr
    have his:i<done.size:=by rw [h.dsz,pg];omega
    by_cases hdn:done.getD i true=true
    ·rw [<-p7 his];exact hdn
    ·exfalso
     obtain⟨o,ho⟩: ∃o,(l++t)[i]? =some o:=⟨l[i],hL2 i _ (lr hil)⟩
     have hmem:i∈Region.ready .any (l++t).toArray done:=by
      rw [vA]
      refine⟨by simpa using hdn,o,by simpa using ho,fun e he A=>?_⟩
      have:=hedge i o ho
      unfold ft at this
      have:=ph.1 this e (by simpa using he)
      simp only [A,qY,Bs,tM]at this
      exact ihm e.on (by omega) (by omega) hr
     rw [hr]at hmem;cases hmem
  refine⟨fun hr=>absurd (fun i hi=>hready0 (i+1) i (by omega) hi hr) hall,fun i hi=>?_⟩
  have hil:i<l.length:=by
   rcases oP i l.length with h' |h'
   ·exact h'
   ·exact absurd (lower done a w S σ c i hfree h hi h') hall
  obtain⟨hun,o,ho,hwait⟩:=vA.1 hi
  have ho' :(l++t)[i]? =some o:=by simpa using ho
  have hol:=hL1 i o hil ho'
  obtain⟨e,he,needs,u,H,J,h3,_,h4,h5⟩:=hget i o hol
  rw [sE]at H h3 h4
  have hF:=h.need ho' hun hwait J h3
  have his:i<done.size:=by rw [h.dsz,pg];omega
  have hun' :done.getD i false=false:=by rw [<-p7 his];exact hun
  have hu' :mN (done.setIfInBounds i true)=fuel:=by have:=sJ hun;omega
  have huq: ∀ah,o.dst=some ah-> ∀j p,(l++t)[j]? =some p->done.getD j false=true->p.dst=some ah->i=j:=fun ah hdd j p hj hjd hpd=>by
   rcases oP j l.length with h' |h'
   ·exact hs2 i j o p ah hol (hL1 j p h' hj) hdd hpd
   ·rw [hfree j h']at hjd;cases hjd
  have hfree' : ∀j,l.length<=j->(done.setIfInBounds i true).getD j false=false:=fun j hj=>by
   rw [yK false (by omega)];exact hfree j hj
  have hbl:E.base<=w.heap.size:=h.ext.size
  have hwaits: ∀q,(l++t)[i]? =some q-> ∀e∈q.after,Region.binds .any e=true->done.getD e.on false=true:=fun q hq e he A=>by
   have:q=o:=by rw [ho']at hq;simpa using hq.symm
   subst this
   exact hwait e he A
  have hdpp: ∀k∈u.1,k=i\/done.getD k false=true:=fun k hk=>by
   have:=ph.1 h4 k hk
   simp only [jM,zg]at this
   rcases this.2 with A|A
   ·exact .inl (qZ A)
   ·exact .inr (gW h.down _ i k hwaits A)
  have hdNN: ∀ah,o.dst=some ah->ah<E.N.n:=fun ah hd=>(hs1 o (uo hol) ah hd).1
  unfold wpOpIn
  rw [ho]
  show if _ then _ else _
  cases e with
  |false=>
   simp only at h5
   obtain⟨hdS,lo,hi',hwin,h5⟩:=h5
   rw [sE]at hwin
   obtain⟨ah,hdd⟩:=Option.isSome_iff_exists.1 hdS
   have hdN:=(hs1 o (uo hol) ah hdd).1
   unfold XW at hwin
   rw [jM]at hwin
   obtain⟨hw1,hw2⟩:=hwin
   have hw1' :=uq hw1
   have hwk: ∀k,es[k]? =some true->(Nat.ble lo (ii es k)=true\/o0 (l++t) (l++t).length i k=true)/\(Nat.blt (ii es k) hi' =true\/o0 (l++t) (l++t).length k i=true):=fun k hk=>by
    have hkl:k<es.length:=(kN.1 hk).1
    have:=ph.1 hw2 k (by simpa using hkl)
    rw [hk]at this
    simpa using this
   have hlo:lo<=c:=by
    rcases oP c lo with hlt|hge
    ·exfalso
     obtain⟨k,hk1,hk2,hk3⟩:=yE (es:=es) (c:=c) (k:=es.length) (by omega)
     rcases(hwk k hk2).1 with A|A
     ·have:=uq A;omega
     ·have:=(h.chain k hk2).1 (gW h.down _ i k hwaits A)
      omega
    ·exact hge
   have hhi:c<=hi' :=by
    rcases oP hi' c with hlt|hge
    ·exfalso
     obtain⟨k,hk1,hk2,hk3⟩:=yE (es:=es) (c:=hi') (k:=es.length) (by omega)
     rcases(hwk k hk2).2 with A|A
     ·simp only [tM]at A;omega
     ·have hkd:done.getD k false=true:=(h.chain k hk2).2 (by omega)
      have:=gW h.down _ k i (fun q hq e he A=>h.down k q hq hkd e he A) A
      rw [this]at hun';cases hun'
    ·exact hge
   have h6:=h5 c σ hlo hhi a w S h.sat h.own hF
   have hch' : ∀k,es[k]? =some true->((done.setIfInBounds i true).getD k false=true↔ii es k<c):=fun k hk=>by
    have hne:i≠k:=fun e=>by subst e;rw [he]at hk;cases hk
    rw [yK false hne];exact h.chain k hk
   by_cases hw:Region.wanted o (yielded (l++t).toArray a.tmps)=true
   ·rw [cx hw]at h6 ⊢
    refine mw (fun a' w' ⟨v,S',ha,D,hs,hv⟩=>?_) h6
    subst ha
    exact ih _ _ _ S' _ c hu' hfree' hcle (h.step ho' hdNN huq hwait H hun hdpp D (fun _ A=>A.elim) hs (h.own.ext0 D) (fun _ _=>rfl) hv hch')
   ·rw [cm hw]at h6 ⊢
    exact⟨fun _ _=>trivial,ih _ _ _ S _ c hu' hfree' hcle (h.step ho' hdNN huq hwait H hun hdpp (lq.refl wC _ _) (fun _ A=>A.elim) h.sat h.own (fun _ _=>rfl) h6 hch')⟩
  |true=>
   simp only [sE]at h5
   -- it is the next one of the chain
   have hca:ii es i=c:=by
    have hn: ¬ii es i<c:=fun hlt=>by rw [(h.chain i he).2 hlt]at hun';cases hun'
    rcases oP c (ii es i)with hlt|hge
    ·exfalso
     obtain⟨k,hk1,hk2,hk3⟩:=yE hlt
     have hkd:done.getD k false=true:=gW h.down _ i k hwaits (hchain i k hk1 he hk2)
     have:=(h.chain k hk2).1 hkd
     omega
    ·omega
   subst hca
   have h6:=h5 σ a w S h.sat h.own hF hbl
   have hch' : ∀k,es[k]? =some true->((done.setIfInBounds i true).getD k false=true↔ii es k<ii es i+1):=fun k hk=>by
    by_cases hik:i=k
    ·subst hik
     constructor
     ·intro _;omega
     ·intro _;simp [his]
    ·rw [yK false hik,h.chain k hk]
     constructor
     ·intro h;omega
     ·intro hlt
      rcases oP i k with hlk|hlk
      ·have:=HH hlk he;omega
      ·exact HH (by omega) hk
   have hcle' :ii es i+1<=ii es es.length:=HH (by omega) he
   by_cases hw:Region.wanted o (yielded (l++t).toArray a.tmps)=true
   ·rw [cx hw]at h6 ⊢
    refine mw (fun a' w' ⟨v,S',x,ha,D,hs,hown,hv⟩=>?_) h6
    subst ha
    exact ih _ _ _ S' _ _ hu' hfree' hcle' (h.step ho' hdNN huq hwait H hun hdpp D (fun b ⟨f,hf,A⟩=>(dA.mem h.own f hf).2 b A) hs hown (fun k hk=>JI σ x hk) hv hch')
   ·rw [cm hw]at h6 ⊢
    obtain⟨x,hown,hv⟩:=h6
    exact⟨fun _ _=>trivial,ih _ _ _ S _ _ hu' hfree' hcle' (h.step ho' hdNN huq hwait H hun hdpp (lq.refl wC _ _) (fun _ A=>A.elim) h.sat hown (fun k hk=>JI σ x hk) hv hch')⟩
variable{O:List OE}
def er{id:Nat}(m:Nat)(ts:List TS)(es:List Bool)(Ss:List ((Nat->OI)->List OE))(hO:Ss[0]? =some fun _=>O)(hm:E.P.follows .mixedOrders=true)(hsl:zw E.N.n [] (L.take m)=true)(hlen:ts.length=(L.take m).length)(hesl:es.length=(L.take m).length)(hch:OF L es=true)(M:Ba L (L.take m).length (L.drop m).length=true)(hd:DS E G L ts Ss es 0 0 (L.take m) es)(k: ∀σ:Nat->OI,RG E L.toArray aC (L.drop m) (Sn Ss (ii es es.length) σ) (LM (L.take m) (UB ts σ) G)):CG E aC (.region id L.toArray true) O G:=fun a w S st=>by
 have hL:L=L.take m++L.drop m:=(uN m L).symm
 generalize L.take m=l at hL hsl hlen hesl M hd k
 generalize L.drop m=t at hL M k
 subst hL
 refine wpIn_region_any hm ?_
 obtain⟨he,hs⟩:=DA (w:=w) st.sat
 have hO0:Sn Ss 0 (fun _=>oD)=O:=by unfold Sn;rw [hO]
 refine K0 hsl hlen hesl hd hch M (fun a w S σ st=>k σ a w S st) _ _ _ _ S (fun _=>oD) 0 ?_ (fun j _=>?_) (jR _)
  ⟨st.ext.step0 he,hs,by rw [hO0];exact st.own.ext0 he,st.facts.size,st.facts.defers,by simp,fun j o hj hdone=>?_,fun k t hk _=>st.facts.at_ k t hk,fun j o ah t hj hdone=>?_,fun j p hdone=>?_,fun k _=>⟨fun hdone=>?_,fun h=>(by omega)⟩⟩
 ·unfold mN;rw [O7,OZ];simp
 ·simp [Bz];split<;>rfl
 ·simp [Bz]at hdone
  split at hdone<;>simp at hdone
 ·simp [Bz]at hdone
  split at hdone<;>simp at hdone
 ·simp [Bz]at hdone
  split at hdone<;>simp at hdone
 ·simp [Bz]at hdone
  split at hdone<;>simp at hdone
def fM{p:Nat->(Nat->OI)->Prop}{lo:Nat}(h: ∀σ,p lo σ): ∀c σ,lo<=c->c<=lo->p c σ:=fun c σ H J=>by
 have:c=lo:=by omega
 subst this;exact h σ
def ur{p:Nat->(Nat->OI)->Prop}{lo hi:Nat}(h: ∀σ,p lo σ)(k: ∀c σ,lo+1<=c->c<=hi->p c σ): ∀c σ,lo<=c->c<=hi->p c σ:=fun c σ H J=>by
 by_cases e:c=lo
 ·subst e;exact h σ
 ·exact k c σ (by omega) J
variable{after:Array Edge}{g:Option (Nat×Bool)}{ok:α->Prop}{op:Op}{pos:String}{post:OI->List OE}
def Di{ty:TypeId}(hnd: ∀c,op≠ .defer c)(h: ∀a w S,mU w S->dA E.base E.B w S O->dm E.N S a G->E.base<=w.heap.size-> ∃w' S' x,(execOp a.eval ⟨none,op,ty,pos,after,g⟩).run E.P w= .ok .skip w' /\lq (PT O) w S w' S' /\mU w' S' /\dA E.base E.B w' S' (post x)):
  EffOK E O G ⟨none,op,ty,pos,after,g⟩ post (fun _=>tS):=fun a w S hs ho hf A=>by
 obtain⟨w',S',x,H,J,h3,h4⟩:=h a w S hs ho hf A
 refine⟨hnd,?_⟩
 rw [H]
 exact⟨undef,S',x,rfl,J,h3,h4,trivial⟩

abbrev HL:=List (Nat×Value)
def C3:HL->Nat->Option Value
 |[],_=>none
 |p::hs,o=>bif Nat.beq p.1 o then some p.2 else C3 hs o
def xE: ∀{hs:HL} {o:Nat} {v:Value},C3 hs o=some v->(o,v)∈hs
 |[],_,_,h=>by cases h
 |p::hs,o,v,h=>by
  unfold C3 at h
  by_cases A:Nat.beq p.1 o=true
  ·rw [A]at h
   have e1:=qZ A
   have e2:p.2=v:=rC h
   subst e1 e2
   exact oh ..
  ·rw [DB]at A
   rw [A]at h
   exact oO _ (xE h)
def rH{α:Type}(r:Rp α)(hs:HL):Rp α where
 sz:=r.sz
 agg:=r.agg
 rc:=fun S cs x=>r.rc S cs x/\ ∀p∈hs,cs[p.1]? =some p.2
 mono:=fun h k=>⟨r.mono h k.1,k.2⟩
 len:=fun k=>r.len k.1
 one:=fun k=>r.one k.1
 sc:=r.sc
variable{cs:List Value}{off:Nat}
def nI{hs:HL}{get:α->β}(h:jj r off q get):jj (rH r hs) off q get:=fun S cs x k=>h S cs x k.1
def R1(h:cs[off]? =some v):(cs.drop off).take 1=[v]:=by
 have hlt:=(kN.1 h).1
 rw [sH hlt,(kN.1 h).2]
 rfl
def ach{hs:HL}(h:C3 hs off=some v):jj (rH r hs) off rV (fun _=>v):=fun S cs x k=>by
 have H:=k.2 _ (xE h)
 exact⟨R1 H,r.one k.1 v (uo H)⟩
def HZ(z:List Value):HL->Prop
 |[]=>True
 |p::hs=>z[p.1]? =some p.2/\HZ z hs
variable{z:List Value}
def HZ.all: ∀{hs:HL},HZ z hs-> ∀p∈hs,z[p.1]? =some p.2
 |_::_,⟨h,_⟩,_,.head _=>h
 |_::_,⟨_,h⟩,_,.tail _ hm=>HZ.all h _ hm
def zH{x:α}{hs:HL}(h: ∀S,r.rc S z x)(k:HZ z hs): ∀S,(rH r hs).rc S z x:=fun S=>⟨h S,k.all⟩
def Yk(hs:HL)(off sz:Nat):Bool:=hs.all fun p=>Nat.blt p.1 off||Nat.ble (off+sz) p.1
def ZA(hs:HL)(off sz:Nat)(v:Option Value):HL->Prop
 |[]=>True
 |p::l=>((v=some p.2/\p.1=off/\sz=1)\/(C3 hs p.1=some p.2/\(Nat.blt p.1 off||Nat.ble (off+sz) p.1)=true))/\ZA hs off sz v l
variable{sz:Nat}
def ZA.all{hs:HL}{v:Option Value}: ∀{l:HL},ZA hs off sz v l-> ∀p∈l,(v=some p.2/\p.1=off/\sz=1)\/(C3 hs p.1=some p.2/\(Nat.blt p.1 off||Nat.ble (off+sz) p.1)=true)
 |_::_,⟨h,_⟩,_,.head _=>h
 |_::_,⟨_,h⟩,_,.tail _ hm=>ZA.all h _ hm
def z2{ds:List Value}{k:Nat}(hl:ds.length=sz)(hoff:off+sz<=cs.length)(h:(Nat.blt k off||Nat.ble (off+sz) k)=true):(cs.take off++ds++cs.drop (off+sz))[k]? =cs[k]? :=by
 simp only [zg,tM,Nat.ble_eq]at h
 have M:(cs.take off).length=off:=by simp;omega
 rcases h with h|h
 ·rw [Cq (by simp;omega),Cq (by omega),DC h]
 ·rw [xl (by simp;omega),y0]
  congr 1
  simp only [pg,M,hl];omega
def T0{ds:List Value}(hd:ds=[v])(hoff:off+1<=cs.length):(cs.take off++ds++cs.drop (off+1))[off]? =some v:=by
 subst hd
 have M:(cs.take off).length=off:=by simp;omega
 rw [Cq (by simp;omega),xl (by omega),M,FU]
 rfl
variable{set:α->β->α}{y:α}
def wq{hs hs' :HL}{x:α}{y:β}(h:eP r off q set)(hk:ZA hs off q.sz none hs')(hoff:Nat.ble (off+q.sz) r.sz=true):rx (rH r hs) (rH r hs') off q x y (set x y):=fun S cs ds H J=>by
 refine⟨h S cs x ds y H.1 J,fun p hp=>?_⟩
 rcases hk.all p hp with⟨e,_⟩|⟨g1,g2⟩
 ·cases e
 ·have hl:=r.len H.1
  rw [z2 (q.len J) (by have:=uq hoff;omega) g2]
  exact H.2 _ (xE g1)
def IM{hs:HL}(h:eP r off q set)(hk:Yk hs off q.sz=true)(hoff:Nat.ble (off+q.sz) r.sz=true):eP (rH r hs) off q set:=fun S cs x ds y H J=>by
 refine⟨h S cs x ds y H.1 J,fun p hp=>?_⟩
 have hl:=r.len H.1
 rw [z2 (q.len J) (by have:=uq hoff;omega) (ph.1 hk p hp)]
 exact H.2 _ hp
variable{T U:TypeId}{hg:MV β}{agg:Bool}{bytes cap:Nat}{dst:Option Tmp}{ops:Array Oper}{r' :Rp α}{rest:List Oper}{xs:List α}{γ:β->Ty}
section
variable{e:Exit}
section
variable{ty:TypeId}
def fZ{t:OI->Ty}(h:EffOK E O G ⟨none,op,ty,pos,after,none⟩ post t)(k: ∀x,RG E ops aC rest (post x) G):RG E ops aC (⟨none,op,ty,pos,after,none⟩::rest) O G:= .of rfl fun a w S st=>
 pZ (fun a' w' ⟨v,S',x,ha,D,hs,ho,hv⟩=>by
  subst ha
  exact k x _ _ S' ⟨st.ext.step D fun b ⟨f,hf,A⟩=>(dA.mem st.own f hf).2 b A,hs,ho,st.facts.mono D.keep⟩) (h a w S st.sat st.own st.facts st.base_le)
def dr{γ:Type}{r' :Rp γ}{x:α}{x' :γ}{y:β}{v:Operand}(ti:TI E.P U sz bytes agg z)(hsz:q.sz=sz)(hset:rx r r' off q x y x')(hoff:Nat.ble (off+q.sz) r.sz=true)(hp:bk E.N G p (tV (an b off)))(hv:bk E.N G v (Z q y)):EffOK E (bx r T b x::O) G ⟨none,.store U p v,ty,pos,after,g⟩ (fun _=>bx r' T b x' ::O) (fun _=>tS):=Di (fun _ h=>(by cases h)) fun a w S hs ho hf A=>by
 have H:a.eval p=an b off:=hp S a hf
 obtain⟨ds,J,h3⟩:=hv S a hf
 obtain⟨⟨hno,cur,h5,h6⟩,_⟩:=ho.1
 have hl:=r.len h6
 have hoff' :=uq hoff
 obtain⟨w',hr,e1,e2,e3,e4,e5,e6⟩:=jO ti hsz h3 h5 (off:=off) (by simp at hl;omega)
 have hrun:(execOp a.eval ⟨none,.store U p v,ty,pos,after,g⟩).run E.P w= .ok .skip w' :=by
  simp [execOp,H,J,Instr.storeAt,an,Instr.sureAddr,hr]
 obtain⟨g1,g2,g3⟩:=nk (O:=O) hs (bx r T b x) (bx r' T b x') ho (fun _=>vz) (fun _=>vz) ⟨e1,e2,e3,e4.1,e4.2⟩ e6 ⟨hno,_,e5,by simpa using hset S _ _ h6 h3⟩ hno
 exact⟨w',S,oD,hrun,g1.more fun k hk=>⟨_,oh ..,hk⟩,g2,g3⟩
def il{hs hs' :HL}{x:α}{y:β}{v:Operand}(ti:TI E.P U 1 bytes false z)(hsz:q.sz=1)(hag:q.agg=false)(hset:eP r off q set)(hoff:Nat.ble (off+1) r.sz=true)(hk:ZA hs off 1 (some u) hs')(hp:bk E.N G p (tV (an b off)))(hv:bk E.N G v (Z q y))(hu:bk E.N G v (tV u)):EffOK E (bx (rH r hs) T b x::O) G ⟨none,.store U p v,ty,pos,after,g⟩ (fun _=>bx (rH r hs') T b (set x y)::O) (fun _=>tS):=Di (fun _ h=>(by cases h)) fun a w S hsat ho hf A=>by
 have H:a.eval p=an b off:=hp S a hf
 obtain⟨ds,J,h3⟩:=hv S a hf
 have hu' :a.eval v=u:=hu S a hf
 obtain⟨⟨hno,cur,h5,h6⟩,_⟩:=ho.1
 have hl:=r.len h6.1
 have hoff' :=uq hoff
 have hdl:=q.len h3
 have hds:ds=[u]:=by
  obtain⟨ah,hd⟩:=List.length_eq_one_iff.1 (by rw [hdl,hsz]:ds.length=1)
  subst hd
  have e1:q.val [ah]=ah:=by simp [Rp.val,hag]
  rw [J,e1]at hu'
  rw [hu']
 obtain⟨w',hr,e1,e2,e3,e4,e5,e6⟩:=jO ti hsz h3 h5 (off:=off) (by simp at hl;omega)
 have hrun:(execOp a.eval ⟨none,.store U p v,ty,pos,after,g⟩).run E.P w= .ok .skip w' :=by
  simp [execOp,H,J,Instr.storeAt,an,Instr.sureAddr,hr]
 rw [hsz]at e5
 have hnew:(rH r hs').rc S (cur.toList.take off++ds++cur.toList.drop (off+1)) (set x y):=by
  have h7:=hset S _ _ _ _ h6.1 h3
  rw [hsz]at h7
  refine⟨h7,fun p hp=>?_⟩
  rcases hk.all p hp with⟨f1,f2,_⟩|⟨f1,f2⟩
  ·rw [f2]
   exact T0 (by rw [hds,rC f1]) (by omega)
  ·rw [z2 (by rw [hdl,hsz]) (by omega) f2]
   exact h6.2 _ (xE f1)
 obtain⟨g1,g2,g3⟩:=nk (O:=O) hsat (bx (rH r hs) T b x) (bx (rH r hs') T b (set x y)) ho (fun _=>vz) (fun _=>vz) ⟨e1,e2,e3,e4.1,e4.2⟩ e6 ⟨hno,_,e5,by simpa using hnew⟩ hno
 exact⟨w',S,oD,hrun,g1.more fun k hk=>⟨_,oh ..,hk⟩,g2,g3⟩
end
section
variable{ty:TypeId}
def qE{hs:HL}{x:α}(ti:TI E.P U 1 bytes false z)(hk:C3 hs off=some u)(hm:bx (rH r hs) T b x∈O)(hp:bk E.N G p (tV (an b off))):
  cH E O G ⟨dst,.load U p,ty,pos,after,g⟩ (tV u):=(bA (q:=rV) ti rfl rfl (ach hk) hm hp).imp fun _ _ h=>(CA.1 h).1
def cR{q:Rp α}{r:Rp β}{hs:HL}{x:β}{hg:TypeId}{l:Option Nat}(ti:TI E.P U 1 bytes false z)(hk:C3 hs off=some (Y l cap xs.length))(hm:bx (rH r hs) T b x∈O)(hm2:K q hg l cap xs∈O)(hp:bk E.N G p (tV (an b off))):
  cH E O G ⟨dst,.load U p,ty,pos,after,g⟩ (tO q l cap xs):=fun a w S hs' ho hf=>
 pZ (fun _ _ ⟨v,S',H,J,h3,h4⟩=>⟨v,S',H,J,h3,h4,by
  have h5:v=Y l cap xs.length:=h4
  rw [h5]
  exact nc (((ho.ext0 J).mem _ hm2).1)⟩) (qE (g:=g) (ty:=ty) (pos:=pos) (after:=after) (dst:=dst) ti hk hm hp a w S hs' ho hf)
def U9{t:Ty}(H: ∀S v,t.p S v->v.oneCell' =true)(D:bk E.N G x t):cH E O G ⟨dst,.box T x,ty,pos,after,g⟩ (bo (rT t) ()):=
 NQ (fun S a hf=>tRT.2 ⟨H _ _ (D S a hf),D S a hf⟩)
end
def UW:HL->HL->Prop
 |[],_=>True
 |p::l,hs=>C3 hs p.1=some p.2/\UW l hs
def UW.all{hs:HL}: ∀{l:HL},UW l hs-> ∀p∈l,p∈hs
 |_::_,⟨h,_⟩,_,.head _=>xE h
 |_::_,⟨_,h⟩,_,.tail _ hm=>UW.all h _ hm
end

variable{B:Nat->Prop}{base:Nat}{x0 x1 x10 x11 x12 x13 x2 x3 x4 x5 x6 x7 x8 x9:OE}
def Ae(h:dA base B w S (x0::x1::x2::x3::x4::x5::x6::x7::x8::x9::x10::x11::x12::x13::O)):dA base B w S (x13::x0::x1::x2::x3::x4::x5::x6::x7::x8::x9::x10::x11::x12::O):=
 (nE h Af (fun f hf=>by simp only [gn]at hf ⊢;rcases hf with h|h|h|h|h|h|h|h|h|h|h|h|h|h<;>simp [h])).swap
def HK(h:RG E ops aC rest (x13::x0::x1::x2::x3::x4::x5::x6::x7::x8::x9::x10::x11::x12::O) G):RG E ops aC rest (x0::x1::x2::x3::x4::x5::x6::x7::x8::x9::x10::x11::x12::x13::O) G:=fun a w S st=>h a w S (st.own_map Ae)
def OX{e:Exit}(h:AT E aC e (x13::x0::x1::x2::x3::x4::x5::x6::x7::x8::x9::x10::x11::x12::O) G):AT E aC e (x0::x1::x2::x3::x4::x5::x6::x7::x8::x9::x10::x11::x12::x13::O) G:=fun a w S st=>h a w S (st.own_map Ae)
def MG{x14:OE}(h:dA base B w S (x0::x1::x2::x3::x4::x5::x6::x7::x8::x9::x10::x11::x12::x13::x14::O)):dA base B w S (x14::x0::x1::x2::x3::x4::x5::x6::x7::x8::x9::x10::x11::x12::x13::O):=
 (nE h Ae (fun f hf=>by simp only [gn]at hf ⊢;rcases hf with h|h|h|h|h|h|h|h|h|h|h|h|h|h|h<;>simp [h])).swap
def OW{e:Exit}{x14:OE}(h:AT E aC e (x14::x0::x1::x2::x3::x4::x5::x6::x7::x8::x9::x10::x11::x12::x13::O) G):AT E aC e (x0::x1::x2::x3::x4::x5::x6::x7::x8::x9::x10::x11::x12::x13::x14::O) G:=fun a w S st=>h a w S (st.own_map MG)
variable{O' :List OE}
def EffOK.perm{t:OI->Ty}(h:EffOK E O' G o post t)(k: ∀{w S},dA E.base E.B w S O->dA E.base E.B w S O')(m: ∀f∈O',f∈O):EffOK E O G o post t:=fun a w S hs ho hf A=>
 pZ (fun _ _ ⟨v,S',x,H,J,h3,h4,h5⟩=>⟨v,S',x,H,J.more fun _ ⟨f,hf,hk⟩=>⟨f,m f hf,hk⟩,h3,h4,h5⟩) (h a w S hs (k ho) hf A)
namespace EffOK
section
variable{t:OI->Ty}
def fr1(h:EffOK E (x1::x0::O) G o post t):EffOK E (x0::x1::O) G o post t:=h.perm (fun hw=>dA.swap hw) (fun f hf=>by simp only [gn]at hf ⊢;rcases hf with h|h|h<;>simp [h])
def fr2(h:EffOK E (x2::x0::x1::O) G o post t):EffOK E (x0::x1::x2::O) G o post t:=h.perm (fun hw=>te hw) (fun f hf=>by simp only [gn]at hf ⊢;rcases hf with h|h|h|h<;>simp [h])
def fr3(h:EffOK E (x3::x0::x1::x2::O) G o post t):EffOK E (x0::x1::x2::x3::O) G o post t:=h.perm (fun hw=>wh hw) (fun f hf=>by simp only [gn]at hf ⊢;rcases hf with h|h|h|h|h<;>simp [h])
def fr4(h:EffOK E (x4::x0::x1::x2::x3::O) G o post t):EffOK E (x0::x1::x2::x3::x4::O) G o post t:=h.perm (fun hw=>wg hw) (fun f hf=>by simp only [gn]at hf ⊢;rcases hf with h|h|h|h|h|h<;>simp [h])
def fr5(h:EffOK E (x5::x0::x1::x2::x3::x4::O) G o post t):EffOK E (x0::x1::x2::x3::x4::x5::O) G o post t:=h.perm (fun hw=>we hw) (fun f hf=>by simp only [gn]at hf ⊢;rcases hf with h|h|h|h|h|h|h<;>simp [h])
def fr6(h:EffOK E (x6::x0::x1::x2::x3::x4::x5::O) G o post t):EffOK E (x0::x1::x2::x3::x4::x5::x6::O) G o post t:=h.perm (fun hw=>td hw) (fun f hf=>by simp only [gn]at hf ⊢;rcases hf with h|h|h|h|h|h|h|h<;>simp [h])
def fr7(h:EffOK E (x7::x0::x1::x2::x3::x4::x5::x6::O) G o post t):EffOK E (x0::x1::x2::x3::x4::x5::x6::x7::O) G o post t:=h.perm (fun hw=>wd hw) (fun f hf=>by simp only [gn]at hf ⊢;rcases hf with h|h|h|h|h|h|h|h|h<;>simp [h])
def fr8(h:EffOK E (x8::x0::x1::x2::x3::x4::x5::x6::x7::O) G o post t):EffOK E (x0::x1::x2::x3::x4::x5::x6::x7::x8::O) G o post t:=h.perm (fun hw=>yG hw) (fun f hf=>by simp only [gn]at hf ⊢;rcases hf with h|h|h|h|h|h|h|h|h|h<;>simp [h])
def fr9(h:EffOK E (x9::x0::x1::x2::x3::x4::x5::x6::x7::x8::O) G o post t):EffOK E (x0::x1::x2::x3::x4::x5::x6::x7::x8::x9::O) G o post t:=h.perm (fun hw=>yF hw) (fun f hf=>by simp only [gn]at hf ⊢;rcases hf with h|h|h|h|h|h|h|h|h|h|h<;>simp [h])
def fr10(h:EffOK E (x10::x0::x1::x2::x3::x4::x5::x6::x7::x8::x9::O) G o post t):EffOK E (x0::x1::x2::x3::x4::x5::x6::x7::x8::x9::x10::O) G o post t:=h.perm (fun hw=>uj hw) (fun f hf=>by simp only [gn]at hf ⊢;rcases hf with h|h|h|h|h|h|h|h|h|h|h|h<;>simp [h])
def fr11(h:EffOK E (x11::x0::x1::x2::x3::x4::x5::x6::x7::x8::x9::x10::O) G o post t):EffOK E (x0::x1::x2::x3::x4::x5::x6::x7::x8::x9::x10::x11::O) G o post t:=h.perm (fun hw=>ui hw) (fun f hf=>by simp only [gn]at hf ⊢;rcases hf with h|h|h|h|h|h|h|h|h|h|h|h|h<;>simp [h])
def post_imp{post' :OI->List OE}(h:EffOK E O G o post t)(k: ∀{w S x},dA E.base E.B w S (post x)->dA E.base E.B w S (post' x)):EffOK E O G o post' t:=fun a w S hs ho hf A=>
 pZ (fun _ _ ⟨v,S',x,H,J,h3,h4,h5⟩=>⟨v,S',x,H,J,h3,k h4,h5⟩) (h a w S hs ho hf A)
end
end EffOK
variable{P:Program}{cells:List Value}{mm:Bool}{ys zs:List α}
section
variable{ty:TypeId}
def Cb{l:Option Nat}{foff:Nat}{v:β}{i:Int}(ti:TI E.P T sz bytes agg z)(hsz:q.sz=sz)(hset:eP r foff q set)(hoff:Nat.ble (foff+q.sz) r.sz=true)(hy:fz xs i=some y)(hz:xs.set i.toNat (set y v)=zs)(hp:bk E.N G p (tV (dO l (i.toNat*r.sz+foff))))(D:bk E.N G x (Z q v)):EffOK E (f6 r U l cap xs::O) G ⟨none,.store T p x,ty,pos,after,g⟩ (fun _=>f6 r U l cap zs::O) (fun _=>tS):=Di (fun _ h=>(by cases h)) fun a w S hsat hown hf hbase=>by
 subst hz
 have H:a.eval p=dO l (i.toNat*r.sz+foff):=hp S a hf
 obtain⟨ds,J,h3⟩:=D S a hf
 obtain⟨h0,hy'⟩:=kx hy
 have hlt:i.toNat<xs.length:=(kN.1 hy').1
 obtain⟨cells,hraw,hrc,hno⟩:=hown.1.1
 obtain⟨b,cur,rfl,A,hle,hcs,h6⟩:=r0 hown.1.1 hy'
 obtain⟨cur',hb',hle',hmax,hcs',hct⟩:=hraw
 have hcc:cur' =cur:=by rw [A]at hb';injection hb' with e;injection e with e1;exact e1.symm
 subst hcc
 have hno' :S b=none:=hno b rfl
 have hoff' :=uq hoff
 have hl3:=q.len h3
 have hmul:i.toNat*r.sz+r.sz<=xs.length*r.sz:=by rw [<-Nat.succ_mul];exact By _ hlt
 have hmul2:xs.length*r.sz<=cur'.size:=by rw [hcs];exact By _ hle
 obtain⟨w',hr,e1,e2,e3,e4,e5,e6⟩:=jO ti hsz h3 A (off:=i.toNat*r.sz+foff) (by omega)
 have hrun:(execOp a.eval ⟨none,.store T p x,ty,pos,after,g⟩).run E.P w= .ok .skip w' :=by
  simp [execOp,H,J,Instr.storeAt,dO,an,Instr.sureAddr,hr]
 have hnew:=hset S _ _ _ _ h6 h3
 have hrc' :=CP hnew hrc hlt
 have hcl:=mC hrc
 have hcells:(cur'.toList.take (i.toNat*r.sz+foff)++ds++cur'.toList.drop (i.toNat*r.sz+foff+q.sz)).take (xs.length*r.sz)=
   cells.take (i.toNat*r.sz)++(((cur'.toList.drop (i.toNat*r.sz)).take r.sz).take foff++ds++((cur'.toList.drop (i.toNat*r.sz)).take r.sz).drop (foff+q.sz))++cells.drop (i.toNat*r.sz+r.sz):=by
  subst hct
  apply KP
  intro j
  simp only [List.getElem?_take,List.getElem?_append,y0,Bw,Ct,pg,HX]
  rcases oP j (xs.length*r.sz)with hj|hj
  ·simp only [hj,jb]
   rcases oP j (i.toNat*r.sz)with hj1|hj1
   ·rw [cx (by omega),cx (by omega),cx (by omega),cx (by omega),cx (by omega),cx (by omega)]
   ·rcases oP j (i.toNat*r.sz+foff)with hj2|hj2
    ·rw [cx (by omega),cx (by omega),cx (by omega),cx (by omega),cm (by omega),cx (by omega),cx (by omega),cx (by omega),cx (by omega)]
     congr 1;omega
    ·rcases oP j (i.toNat*r.sz+foff+q.sz)with hj3|hj3
     ·rw [cx (by omega),cm (by omega),cx (by omega),cm (by omega),cx (by omega),cm (by omega)]
      congr 1;omega
     ·rw [cm (by omega)]
      rcases oP j (i.toNat*r.sz+r.sz)with hj4|hj4
      ·rw [cx (by omega),cm (by omega),cm (by omega),cx (by omega)]
       congr 1;omega
      ·rw [cm (by omega),cx (by omega)]
       congr 1;omega
  ·rw [cm (by omega),cm (by omega),cm (by omega)]
 obtain⟨g1,g2,g3⟩:=nk (O:=O) hsat (f6 r U (some b) cap xs) (f6 r U (some b) cap (xs.set i.toNat (set y v))) hown (fun k=>⟨fun h=>(rC h).symm,fun h=>by rw [h];rfl⟩) (fun k=>⟨fun h=>(rC h).symm,fun h=>by rw [h];rfl⟩) ⟨e1,e2,e3,e4.1,e4.2⟩ e6
  ⟨_,⟨_,e5,by rw [FV];exact hle,hmax,by simp only [FW,pg,Bw,Ct,HX];omega,by rw [FV];exact hcells⟩,hrc',fun k hk=>by rw [<-rC hk];exact hno'⟩ hno'
 exact⟨w',S,oD,hrun,g1.more fun c hc=>⟨_,oh ..,by rw [hc];rfl⟩,g2,g3⟩
def Oq{v:α}{i:Int}(ti:TI E.P U sz bytes agg z)(hsz:r.sz=sz)(hy:fz xs i=some y)(hz:xs.set i.toNat v=zs)(hp:bk E.N G p (tV (an b (i.toNat*r.sz))))(hv:bk E.N G x (Z r v)):EffOK E (bx (qD r n) T b xs::O) G ⟨none,.store U p x,ty,pos,after,g⟩ (fun _=>bx (qD r n) T b zs::O) (fun _=>tS):=Di (fun _ h=>(by cases h)) fun a w S hsat hown hf hbase=>by
 subst hz
 have H:a.eval p=an b (i.toNat*r.sz):=hp S a hf
 obtain⟨ds,J,h3⟩:=hv S a hf
 obtain⟨⟨hno,cur,h5,h6⟩,_⟩:=hown.1
 obtain⟨h0,hy'⟩:=kx hy
 have hlt:i.toNat<xs.length:=(kN.1 hy').1
 have hl:=mC h6.2
 simp only [HX]at hl
 have hmul:i.toNat*r.sz+r.sz<=xs.length*r.sz:=by rw [<-Nat.succ_mul];exact By _ hlt
 obtain⟨w',hr,e1,e2,e3,e4,e5,e6⟩:=jO ti hsz h3 h5 (off:=i.toNat*r.sz) (by omega)
 have hrun:(execOp a.eval ⟨none,.store U p x,ty,pos,after,g⟩).run E.P w= .ok .skip w' :=by
  simp [execOp,H,J,Instr.storeAt,an,Instr.sureAddr,hr]
 obtain⟨g1,g2,g3⟩:=nk (O:=O) hsat (bx (qD r n) T b xs) (bx (qD r n) T b (xs.set i.toNat v)) hown (fun _=>vz) (fun _=>vz) ⟨e1,e2,e3,e4.1,e4.2⟩ e6 ⟨hno,_,e5,by rw [FV];exact h6.1,CP h3 h6.2 hlt⟩ hno
 exact⟨w',S,oD,hrun,g1.more fun c hc=>⟨_,oh ..,hc⟩,g2,g3⟩

section
def lM{x:α}(ti:TI E.P T sz bytes agg z)(D: ∀S,r.rc S z x):
  EffOK E O G ⟨some ah,.alloc T,ty,pos,after,g⟩ (fun i=>bx r T (i.h 0).2 x::O) (fun i=>tV (an (i.h 0).2 0)):=fun a w S hs ho hf A=>by
 obtain⟨zv,hzr,hzc⟩:=ti.zero w
 obtain⟨he,hs',hno⟩:=lF (w:=w) (.cells z.toArray T (0,0)) hs
 have hrun:(execOp a.eval ⟨some ah,.alloc T,ty,pos,after,g⟩).run E.P w= .ok (.value (an w.heap.size 0)) (w.alloc (.cells z.toArray T (0,0))):=by
  simp [execOp,Instr.alloc,hzr,newVar,newRow,hzc,an]
 refine⟨fun c h=>(by cases h),?_⟩
 rw [hrun]
 exact⟨_,S,oi none w.heap.size,rfl,he.more fun _ A=>A.elim,hs',u7 ho he (e:=bx r T w.heap.size x) ⟨hno,z.toArray,A1 w _,by simpa using D S⟩ (fun b A=>EA A.symm) A,rfl⟩
def Em{xs:List Operand}{ats:Array TypeId}(hc:ak E.P f=true)(hs:jB E.P f ts false r T ys)(D:kD E.N G xs ts):
  EffOK E O G ⟨some ah,.call ⟨.value (.func f),xs.toArray,ats⟩,ty,pos,after,g⟩ (fun i=>f6 r T (i.h 0).1 (i.h 0).2 ys::O) (fun i=>tV (Y (i.h 0).1 (i.h 0).2 ys.length)):=RU (mm:=false) hc hs D (fun _ _ _ _ _=>rfl)
end
section
def dQ{l:Option Nat}{o i:Nat}(hf:bO E.P T i=some (off,sz))(h0:Nat.beq sz 0=false)(hm:mh mm r U l cap xs∈O)(hy:fz xs j=some y)(hp:bk E.N G p (tV (dO l o)))(he:o+off=n):
  cH E O G ⟨dst,.fieldAddr T p i,ty,pos,after,g⟩ (tV (dO l n)):=by
 subst he
 exact Ic hf h0 hm hy hp
def bm(D:bk E.N G x (tV (an b off))):cH E O G ⟨dst,.nilCheck x,ty,pos,after,g⟩ (tV (an b off)):= .of_pure fun a w S _ _ hf=>by
 have H:a.eval x=an b off:=D S a hf
 exact⟨an b off,by simp [execOp,H,an],rfl⟩
def vP{t:Ty}(ti:TI E.P U 1 bytes false z)(hp:bk E.N G p (bo (rT t) ())):cH E O G ⟨dst,.load U p,ty,pos,after,g⟩ t:=ua ti hp
end
def oB(h:O=O')(k:RG E ops aC rest O' G):RG E ops aC rest O G:=by subst h;exact k
def hW(h:bk N G x (tV u))(ho:u.oneCell' =true):bk N G x (Z rV u):=fun S a hf=>CA.2 ⟨h S a hf,ho⟩
def hTT{t:Ty}(H: ∀S v,t.p S v->v.oneCell' =true)(h:bk N G x t):bk N G x (Z (rT t) ()):=fun S a hf=>tRT.2 ⟨H _ _ (h S a hf),h S a hf⟩
def U7{args:α->List Ty}{res:β->Ty}{f:α->Option β}: ∀S v,(jT P args res f).p S v->v.oneCell' =true:=fun _ _ ⟨_,_,e,_⟩=>by rw [e];rfl
end

def Ld{l:Option Nat}{t' e' :TypeId}(M:P.underlying t' =some (.slice e'))(h:AY mm r U l cap xs w S)(hs:dJ xs lo (xs.length:Int)=some ys):
  ∃news,Src P r.sz t' (pf r.sz l cap lo.toNat ys.length) ys.length news w/\ul r S news ys:=by
 obtain⟨cells,H,J,_⟩:=h
 obtain⟨lo',m,rfl,hm,h3,h4,rfl⟩:=gI hs
 have hm' :m=xs.length:=by omega
 subst hm'
 rw [A3,Cu]
 cases l with
 |none=>
  have D:xs=[]:=y9 H.1
  subst D
  exact⟨[],by simpa [pf] using Src.ofNil w M 0,by simp [ul]⟩
 |some b=>
  obtain⟨cur,g1,g2,g3,g4,g5⟩:=H
  have hlen:(xs.drop lo').length=xs.length-lo' :=by simp
  have hcl:=mC J
  have hsp:xs=xs.take lo' ++xs.drop lo' :=(uN lo' xs).symm
  have htl:(xs.take lo').length=lo' :=by simp;omega
  have hr:ul r S (cells.drop (lo' *r.sz)) (xs.drop lo'):=by
   rw [hsp]at J
   have:=(rq J).2
   rwa [htl]at this
  have hmul:lo' *r.sz<=xs.length*r.sz:=By _ h3
  refine⟨cells.drop (lo' *r.sz),?_,hr⟩
  unfold pf
  refine Src.ofSlice w M _ _ _ _ (mC hr) (fun j u hu=>?_) (CQ hr)
  by_cases hc:cap=lo'
  ·have:xs.drop lo' =[]:=rE (by omega)
   rw [this]at hr
   have hr' :cells.drop (lo' *r.sz)=[]:=hr
   rw [hr']at hu;simp at hu
  ·simp only [hc,jh]
   rw [jA,AG g1]
   rw [y0,<-g5]at hu
   have hj:lo' *r.sz+j<xs.length*r.sz:=by
    have:=(kN.1 hu).1
    simp at this;omega
   rw [DC hj]at hu
   simpa using hu
section
variable{ty:TypeId}
def R8{l:Option Nat}{yt:TypeId}(M:E.P.underlying t=some (.slice e))(hm:mh mm r U l cap xs∈O)(hs:dJ xs lo (xs.length:Int)=some ys)(D:bk E.N G x (tV (pf r.sz l cap lo.toNat ys.length)))(hd:Nat.blt ah E.N.n=true)(k: ∀b,(b=true->ys=[])->RG E ops aC rest O ((ah,Z rB b)::G)):RG E ops aC (⟨some ah,.binOp .eql t x (.const (.slice none 0 0)) yt,ty,pos,after,none⟩::rest) O G:= .of rfl fun a w S st=>by
 have H:a.eval x=pf r.sz l cap lo.toNat ys.length:=D S a st.facts
 obtain⟨⟨cells,hraw,_⟩,_⟩:=st.own.mem _ hm
 have hcn:a.eval (.const (.slice none 0 0))= .slice none 0 0:=rfl
 cases l with
 |none=>
  have hx0:xs=[]:=y9 hraw.1
  have hy0:ys=[]:=by
   obtain⟨lo',m,_,_,_,_,rfl⟩:=gI hs
   subst hx0;simp
  have h3:(Op.equal t (.slice none 0 0) (.slice none 0 0)).run E.P w= .ok true w:=JT fun ah=>by
   simp [Op.equalIn,jZ M]
  have hrun:(execOp a.eval ⟨some ah,.binOp .eql t x (.const (.slice none 0 0)) yt,ty,pos,after,none⟩).run E.P w= .ok (.value (.bool true)) w:=by
   simp [execOp,H,pf,hcn,eqGuard,binOp,h3]
  refine⟨fun c h=>(by cases h),?_⟩
  rw [hrun]
  exact k true (fun _=>hy0) _ _ S (st.step (lq.refl _ _ _) st.sat hd (kP.2 rfl))
 |some b=>
  obtain⟨ad,hv⟩: ∃ad,pf r.sz (some b) cap lo.toNat ys.length= .slice (some ad) ys.length (cap-lo.toNat):=⟨_,rfl⟩
  have h3:(Op.equal t (.slice (some ad) ys.length (cap-lo.toNat)) (.slice none 0 0)).run E.P w= .ok false w:=JT fun ah=>by
   simp [Op.equalIn,jZ M]
  have hrun:(execOp a.eval ⟨some ah,.binOp .eql t x (.const (.slice none 0 0)) yt,ty,pos,after,none⟩).run E.P w= .ok (.value (.bool false)) w:=by
   simp [execOp,H,hv,hcn,eqGuard,binOp,h3]
  refine⟨fun c h=>(by cases h),?_⟩
  rw [hrun]
  exact k false (fun e=>(by cases e)) _ _ S (st.step (lq.refl _ _ _) st.sat hd (kP.2 rfl))
def OQ{t' :TypeId}{l l2:Option Nat}{cap2:Nat}{us:List α}{y:Operand}(ti:TI E.P T sz bytes agg z)(hsz:r.sz=sz)(hz:Nat.beq z.length sz=true)(h0:Nat.blt 0 sz=true)(h128:Nat.ble bytes 2048=true)(M:E.P.underlying t=some (.slice T))(ht' :t' =t)(hd:Nat.blt ah E.N.n=true)(D:bk E.N G x (tV (Y l cap n)))(hm:mh mm r U l2 cap2 us∈f6 r T l cap xs::O)(hs:dJ us lo (us.length:Int)=some ys)(hy:bk E.N G y (tV (pf r.sz l2 cap2 lo.toNat ys.length)))(happ:oT xs ys=some zs)(k: ∀l' cap',RG E ops aC rest (f6 r T l' cap' zs::O) ((ah,tV (Y l' cap' zs.length))::G))(hn:n=xs.length:=by rfl):
  RG E ops aC (⟨some ah,.call ⟨.builtin .append,#[x,y],#[t,t']⟩,ty,pos,after,none⟩::rest) (f6 r T l cap xs::O) G:=by
 subst ht'
 exact Ch (u:=fun cap' l' =>tV (Y l' cap' zs.length)) ti hsz hz h0 h128 M hd D (fun a w S st=>by
  have H:a.eval y=pf r.sz l2 cap2 lo.toNat ys.length:=hy S a st.facts
  rw [H]
  exact Ld M (st.own.mem _ hm).1 hs) happ (fun _ _ _ _ _=>rfl) k hn
end

section
variable{args:α->List Ty}{it:It α}{fp:Nat->Prop}
end

section
variable{ty:TypeId}
end


def Fy(l:List (Option Nat×Nat)):OI:={h:=fun n=>l.getD n (none,0)}
def mY(P:Program){hb X ρ:Type}(args:hb->List Ty)(Ob:X->OI->List OE)(res:ρ->Ty)(f:X->hb->Option (ρ×X)):Ty where
 p:=fun S v=> ∀x y R,f x y=some R-> ∃fid fst cap,v= .func (.func fid) fst cap/\ak P fid=true/\ ∀i w S' vs,su S S' ->mU w S' ->AZ S' (args y) vs->dA 0 wC w S' (Ob x i)->
  Calls P fid (fst++vs.toArray++cap) w fun en w' => ∃j v S'',en= .returned v/\(res R.1).p S'' v/\lq (PT (Ob x i)) w S' w' S'' /\mU w' S'' /\dA 0 wC w' S'' (Ob R.2 j)/\ ∀k,PT (Ob R.2 j) k->PT (Ob x i) k\/w.heap.size<=k
 mono:=fun h k x y R hf=>by
  obtain⟨fid,fst,cap,e,hc,hs⟩:=k x y R hf
  exact⟨fid,fst,cap,e,hc,fun i w S' vs hle=>hs i w S' vs (SH.le_trans h hle)⟩
variable{O1:List OE}
section
section
variable{ty:TypeId}
end
def yw{hb X ρ:Type}{args:hb->List Ty}{Ob:X->OI->List OE}{res:ρ->Ty}{f:X->hb->Option (ρ×X)}{x:X}{y:hb}{R:ρ×X}{i:OI}{ty:TypeId}{fo:Operand}{xs:List Operand}{ats:Array TypeId}(Or:List OE)(hO:O=Ob x i++Or)(hf:bk E.N G fo (mY E.P args Ob res f))(hR:f x y=some R)(D:kD E.N G xs (args y))(hpost: ∀j,Ob R.2 j++Or=post j):
  EffOK E O G ⟨some ah,.call ⟨.value fo,xs.toArray,ats⟩,ty,pos,after,g⟩ post (fun _=>res R.1):=fun a w S hsat ho hF A=>by
 subst hO
 obtain rfl:(fun j=>Ob R.2 j++Or)=post:=funext hpost
 obtain⟨fid,fst,cap,e,hc,hs⟩:=hf S a hF x y R hR
 have hr:(execOp a.eval ⟨some ah,.call ⟨.value fo,xs.toArray,ats⟩,ty,pos,after,g⟩).run E.P w= .ok (.enter fid (fst++(xs.map a.eval).toArray++cap)) w:=by
  simp [execOp,resolve,e,Deferred.ofValue,invoke,kf hc]
 refine⟨fun c h=>(by cases h),?_⟩
 rw [hr]
 exact(hs i w S _ (SH.le_refl _) hsat (D.tys hF) (ry ho).1.weak).mono fun en w' ⟨j,v,S',he,hv,H,J,h3,h4⟩=>⟨_,he,v,S',j,rfl,H.more fun b ⟨f,hf,A⟩=>⟨f,FQ _ hf,A⟩,J,dA.turn ho A H h3 h4,hv⟩
def R5{t:Ty}{Ob:OI->List OE}{i:OI}(h:ea P f ts O1 (fun _:OI=>t) (fun _=>Ob i)):ea P f ts O1 (fun _:OI=>t) Ob:=fun w S vs hs hv ho=>
 (h w S vs hs hv ho).mono fun _ _ ⟨_,v,S',H,J,h3,h4,h5,h6⟩=>⟨i,v,S',H,J,h3,h4,h5,h6⟩
section
variable{N:Nat}{w0:World}{S0:SH}{fn:Func}{ι:Type}{t:ι->Ty}{O2:ι->List OE}
def dc{rvs:List ResultVar}(hr:fn.results=rvs.toArray)(H:Nat.beq rvs.length 1=false)(h:R6 P ⟨N,[]⟩ G rvs ts)(i:ι)(hO:O=O2 i)(M:t i=tT ts):
  AT ⟨P,⟨N,[]⟩,PT O1,w0,S0,none⟩ (bodyPost P fn (Wu ⟨P,⟨N,[]⟩,PT O1,w0,S0,none⟩ O1 t O2)) .ret O G:=fun a w S st=>by
 obtain⟨vs,k1,k2,k3⟩:=h.run st.sat st.facts
 have hne: ¬vs.length=1:=by rw [k3];intro e;rw [e]at H;cases H
 refine⟨st.facts.defers,.tuple vs.toArray,?_,Qn st rfl i hO (by rw [M];exact⟨vs,rfl,k2⟩)⟩
 have e1:(fn.results.mapM (BN a.tmps)).run P w= .ok vs.toArray w:=by
  rw [hr,List.mapM_toArray,Sem.run_map,k1]
  rfl
 have e3:results fn a.tmps=((fn.results.mapM (BN a.tmps))>>=fun vs=>pure (if h:vs.size=1 then vs[0]else .tuple vs)):=rfl
 rw [e3,sA,e1]
 simp [Result.andThen,hne]
end
def tPV(u:Value)(t:Ty):Ty where
 p:=fun S v=>v=u/\t.p S u
 mono:=fun h ⟨e,k⟩=>⟨e,t.mono h k⟩
def Z3{t:Ty}(h:bk N G x (tPV u t)):bk N G x t:=fun S a hf=>by
 obtain⟨H,J⟩:=h S a hf
 rw [H];exact J
def St.settleP{k:Nat}{x:α}(h:St E (bx r T b x::O) G a w S)(hk:look G k=some (tV (an b 0))): ∃S',St E O ((k,tPV (an b 0) (bo r x))::G) a w S' :=by
 obtain⟨S',H⟩:=h.settleB hk
 have hv:a.tmps.getD k undef=an b 0:=h.facts.at_ k _ hk
 refine⟨S',⟨H.ext,H.sat,H.own,⟨H.facts.size,H.facts.defers,fun j t hj=>?_⟩⟩⟩
 have hp:(bo r x).p S' (a.tmps.getD k undef):=H.facts.at_ k _ (by simp [look])
 by_cases A:Nat.beq k j=true
 ·have e:=qZ A
  subst e
  simp only [look,Nat.beq_refl,cond_true,A6]at hj
  subst hj
  exact⟨hv,by rw [<-hv];exact hp⟩
 ·rw [DB]at A
  have:look ((k,bo r x)::G) j=some t:=by
   simp only [look,A,cond_false]at hj ⊢;exact hj
  exact H.facts.at_ j t this
def OM{x:α}(k:Nat)(hk:look G k=some (tV (an b 0)))(h:RG E ops aC rest O ((k,tPV (an b 0) (bo r x))::G)):RG E ops aC rest (bx r T b x::O) G:=
 fun a w _ st=>let⟨S',st'⟩:=st.settleP hk;h a w S' st'
end
variable{et kt:TypeId}{kv:κ->Value}{os:List (Option Nat×Nat)}
section
variable [DecidableEq κ]{k:κ}{i v:Operand}{dst:Option Nat}{ty:TypeId}
def Dt{y:β}(hm:E.P.underlying t=some (.map kt et))(hk:Bq E.P kt kv)(D:bk E.N G x (tV (aH b)))(hi:yY E.N G i (kv k))(hv:bk E.N G v (γ y))(h: ∀os',RG E ops aC rest (ci (J1 γ) kv b none os' (kh m k y)::O) G):
  RG E ops aC (⟨none,.insert t x i v,ty,pos,after,none⟩::rest) (ci (J1 γ) kv b none os m::O) G:= .of rfl fun a w S st=>by
 have H:a.eval x=aH b:=D S a st.facts
 have J:a.eval i=kv k:=hi S a st.facts
 have h3:(γ y).p S (a.eval v):=hv S a st.facts
 obtain⟨⟨hp,hfp⟩,hap,hO⟩:=st.own
 obtain⟨hno,hnb,es,clock,e3,e4,hst⟩:=hp
 obtain⟨q,hq,hdk,hinj⟩:=hk
 obtain⟨os1,p1,p2,_⟩:=rk hdk hinj (k:=k) 0 e4
 have hnb1: ∀o∈os1,o.1≠some b:=fun o ho=>by
  rcases p1 o ho with h|h
  ·exact hnb o h
  ·rw [h];exact fun e=>by cases e
 obtain⟨w',os',r,x1,x2,x3,x4⟩:=D5 (hg:=J1 γ) (E:=E) (y:=y) (o:=(none,0)) (val:=a.eval v) st.sat hm ⟨q,hq,hdk,hinj⟩ ⟨hno,hnb1,es,clock,e3,p2,hst⟩ ⟨rfl,h3⟩ (fun e=>by cases e) (fun _ _ _ e=>by cases e)
 have hrun:(execOp a.eval ⟨none,.insert t x i v,ty,pos,after,none⟩).run E.P w= .ok .skip w' :=by simp [execOp,H,J,r]
 refine⟨fun c h=>(by cases h),?_⟩
 rw [hrun]
 have hfp' : ∀j,(ci (J1 γ) kv b none os' (kh m k y)).fp j->(ci (J1 γ) kv b none os m).fp j:=fun j hj=>by
  rcases x4 j hj with(h|⟨o,ho,e⟩)|e
  ·exact .inl h
  ·rcases p1 o ho with h|h
   ·exact .inr ⟨o,h,e⟩
   ·rw [h]at e;cases e
  ·cases e
 exact h os' _ _ S ⟨st.ext.step x1 (fun c hc=>hfp c (.inl hc)),x2,⟨⟨x3,fun j hj=>hfp j (hfp' j hj)⟩,fun f hf j hj=>hap f hf j (hfp' j hj),hO.ext x1 fun f hf j hj hjb=>hap f hf j (.inl hjb) hj⟩,st.facts⟩
end

def wR{κ β:Type}(γ:β->Ty)(kv:κ->Value)(S:SH):List MapEntry->List (κ×β)->Prop
 |[],[]=>True
 |e::es,q::m=>e.key=kv q.1/\(γ q.2).p S e.val/\(∀p∈m,p.1≠q.1)/\wR γ kv S es m
 |_,_=>False
def yv{κ β:Type}{γ:β->Ty}{kv:κ->Value}{S S' :SH}(h:su S S'): ∀{es:List MapEntry} {m:List (κ×β)},wR γ kv S es m->wR γ kv S' es m
 |[],[],_=>trivial
 |_::_,q::_,⟨H,J,h3,h4⟩=>⟨H,(γ q.2).mono h J,h3,yv h h4⟩
def TP{κ β:Type} [DecidableEq κ]{γ:β->Ty}{kv:κ->Value}{w:World}{S:SH}: ∀{es:List MapEntry} {os:List (Option Nat×Nat)} {m:List (κ×β)},zb (J1 γ) kv w S none es os m->wR γ kv S es m
 |[],[],[],_=>trivial
 |_::_,_::_,_::_,⟨H,J,_,h4,h5⟩=>⟨H,by rw [cm (by simp)]at J;exact J.2,h4,TP h5⟩
def Uw{κ β:Type} [DecidableEq κ]{γ:β->Ty}{kv:κ->Value}{w:World}{S:SH}: ∀{es:List MapEntry} {m:List (κ×β)},wR γ kv S es m->zb (J1 γ) kv w S none es (m.map fun _=>(none,0)) m
 |[],[],_=>trivial
 |_::_,_::_,⟨H,J,h3,h4⟩=>⟨H,by rw [cm (by simp)];exact⟨rfl,J⟩,fun _ _ _ h=>(by cases h),h3,Uw h4⟩
def DH{κ β:Type}(γ:β->Ty)(kv:κ->Value)(m:List (κ×β)):Ty where
 p:=fun S v=> ∃b es clock,v=aH b/\S b=some (.map es clock)/\wR γ kv S es.toList m
 mono:=fun h ⟨b,es,cl,e,H,J⟩=>by
  obtain⟨o',h3,h4⟩:=h b _ H
  have h5:o' = .map es cl:=h4
  subst h5
  exact⟨b,es,cl,e,h3,yv h J⟩
def Px: ∀S v,(DH γ kv m).p S v->v.oneCell' =true:=fun _ _ ⟨_,_,_,e,_⟩=>by rw [e];rfl
section
variable [DecidableEq κ]{k:κ}{i:Operand}{dst:Option Nat}{ty:TypeId}
def EN{z:β}{zv:Value}(hm:E.P.underlying t=some (.map kt et))(hk:Bq E.P kt kv)(hz:ZV E.P et zv)(hzt: ∀S,(γ z).p S zv)(D:bk E.N G x (DH γ kv m))(hi:yY E.N G i (kv k)):
  cH E O G ⟨dst,.lookup t x i false,ty,pos,after,g⟩ (γ ((ie m k).getD z)):= .of_pure fun a w S hs ho hf=>by
 obtain⟨b,es,clock,H,h3,h4⟩:=D S a hf
 obtain⟨o',h5,h6⟩:=hs b _ h3
 have h7:o' = .map es clock:=h6
 subst h7
 obtain⟨q,hq,hd,hinj⟩:=hk
 have J:a.eval i=kv k:=hi S a hf
 obtain⟨_,_,_,h8⟩:=rk hd hinj (k:=k) 0 (Uw (w:=w) h4)
 rcases h8 with⟨g1,g2⟩|⟨y,o,e,j,g1,g2,g3,g4,g5⟩
 ·refine⟨zv,by simp [execOp,H,J,lA hm hq (hd k) h5 hz g2],by rw [g1];exact hzt S⟩
 ·refine⟨e.val,by simp [execOp,H,J,lA hm hq (hd k) h5 hz g4],by rw [g1];exact g3.2⟩
def St.settleMp{j:Nat}(h:St E (ci (J1 γ) kv b none os m::O) G a w S)(hk:look G j=some (tV (aH b))): ∃S',St E O ((j,DH γ kv m)::G) a w S' :=by
 obtain⟨⟨hn,_,es,clock,h3,h4,_⟩,_⟩:=h.own.1
 obtain⟨h8,hle,_,_⟩:=BL h (.inl rfl) h3 (xx _) hn
 have hv:a.tmps.getD j undef=aH b:=h.facts.at_ j _ hk
 exact⟨_,h8.cons ⟨b,es,clock,hv,by simp [SH.set],yv hle (TP h4)⟩⟩
def MQ{e:Exit}(j:Nat)(hk:look G j=some (tV (aH b)))(h:AT E aC e O ((j,DH γ kv m)::G)):AT E aC e (ci (J1 γ) kv b none os m::O) G:=
 fun a w _ st=>let⟨S',st'⟩:=st.settleMp hk;h a w S' st'
end

def GS:Nat:=1000000
def tGl{α:Type}(r:Rp α)(x:α)(g:Nat):Ty where
 p:=fun S _=>(bo r x).p S (an g 0)
 mono:=fun h k=>(bo r x).mono h k
def Yo{x:α}{g:Nat}{vs:List Value}(hs:mU w S)(V:(g,vs)∈glob)(hr: ∀S,r.rc S vs x):(bo r x).p S (an g 0):=by
 obtain⟨c,T,fr,H,J⟩:=hs.gl _ V
 refine⟨g,0,c,T,fr,rfl,H,?_⟩
 rw [sF,<-r.len (hr S)]
 have h3:c.toList.take vs.length=vs:=J
 rw [h3]
 exact hr S
variable{s:cX}
section
variable{ty:TypeId}
def Tw{t:Ty}(hf:dm N S a G)(h: ∀v,t.p S v):dm N S a ((GS,t)::G):=⟨hf.size,hf.defers,fun j u hj=>by
 unfold look at hj
 cases A:Nat.beq GS j with
 |true=>
  rw [A]at hj
  simp only [cond_true,A6]at hj
  rw [<-hj];exact h _
 |false=>
  rw [A]at hj
  simp only [cond_false]at hj
  exact hf.at_ j u hj⟩
def Ju{x:α}{v:Nat}{vs:List Value}{t:Ty}(V:(v,vs)∈glob)(hr: ∀S,r.rc S vs x)(h:cH E O ((GS,tGl r x v)::G) o t):cH E O G o t:=fun a w S hs ho hf=>
 h a w S hs ho (Tw hf fun _=>Yo hs V hr)
def Xh{x:α}{v:Nat}:bk N ((GS,tGl r x v)::G) (.global v) (bo r x):=fun S a hf=>hf.at_ GS (tGl r x v) (by simp [look])
def uC(s:cX)(i:Int):Option Int:=(fz s i).map fun b=>(b.toNat:Int)
def lK{ix:Operand}{i y:Int}(M:E.P.underlying t=some .string)(D:bk E.N G x (Z rS s))(hi:bk E.N G ix (Z (rI k) i))(hy:uC s i=some y):
  cH E O G ⟨dst,.index t x ix,ty,pos,after,g⟩ (Z (rI .u8) y):= .of_pure fun a w S _ _ hf=>by
 have H:a.eval x= .string ⟨s.toArray⟩:=uu.1 (D S a hf)
 have J:a.eval ix= .int k i:=f8.1 (hi S a hf)
 unfold uC at hy
 cases A:fz s i with
 |none=>rw [A]at hy;cases hy
 |some b=>
  rw [A]at hy
  obtain⟨g1,g2⟩:=kx A
  have hlt:i.toNat<s.length:=(kN.1 g2).1
  have e:y=(b.toNat:Int):=by simpa using hy.symm
  have hsz:(ByteArray.mk s.toArray).size=s.length:=by simp [ByteArray.size]
  refine⟨.int .u8 y,?_,f8.2 rfl⟩
  have h3:=run_index_string (P:=E.P) w t ⟨s.toArray⟩ k i M
  rw [dif_pos (by rw [hsz];omega)]at h3
  have h4:(ByteArray.mk s.toArray)[i.toNat]'(by rw [hsz];exact hlt)=b:=by
   have:=(kN.1 g2).2
   show s.toArray[i.toNat]=b
   simpa using this
  simp only [execOp,H,J,sA,h3,tJ,ED]
  rw [h4,e]
def D2{u:cX}{hi:Operand}(M:E.P.underlying t=some .string)(D:bk E.N G x (Z rS s))(hh:bk E.N G hi (Z (rI k) j))(hy:dJ s 0 j=some u):
  cH E O G ⟨dst,.slice t x none (some hi) none,ty,pos,after,g⟩ (Z rS u):= .of_pure fun a w S _ _ hf=>by
 have H:a.eval x= .string ⟨s.toArray⟩:=uu.1 (D S a hf)
 have J:a.eval hi= .int k j:=f8.1 (hh S a hf)
 obtain⟨l,m,e1,e2,e3,e4,e5⟩:=gI hy
 have el:l=0:=by omega
 subst el e2 e5
 have hsz:(ByteArray.mk s.toArray).size=s.length:=by simp [ByteArray.size]
 have h3:=run_slice_string_h (P:=E.P) w t ⟨s.toArray⟩ M k (m:Int) (by omega) (by rw [hsz];omega)
 refine⟨_,by simp only [execOp,H,J,Option.map_none,Is,sA,run_sliceAt_string w t _ _ _ _ M,h3,tJ,ED];rfl,uu.2 ?_⟩
 congr 1
 apply ByteArray.ext
 simp
end
open Go.MapKept (Stamped)
section
variable [DecidableEq κ]
def tNx(b:Bool):Ty where
 p:=fun _ v=> ∃vs:List Value,v= .tuple (.mk (.bool b::vs))
 mono:=fun _ h=>h
end
section
variable [DecidableEq κ]{r:Nat}{left:List κ}{cur:Option κ}{k:κ}{i v:Operand}{dst:Option Nat}{ty:TypeId}
def JZ{f:Bool}(D:bk E.N G x (tNx f)):cH E O G ⟨dst,.extract x 0,ty,pos,after,g⟩ (Z rB f):=
 .of_pure fun a w S _ _ hf=>by
  obtain⟨vs,H⟩:=D S a hf
  exact⟨.bool f,by simp [execOp,H,Instr.extract],kP.2 rfl⟩
end
open Go.RowKit

def RQ(hs:mU w S)(h:Below w.heap.size w w')(hd:w.drawn<=w'.drawn):lq wC w S w' S/\mU w' S:=
 ⟨⟨h.os,h.tape,h.output,hd,h.size,fun k hk _=>h.block k hk,SH.le_refl _,fun _ _ _=>rfl⟩,hs.same fun b o A=>h.block b (hs.lt A)⟩
def MC{t:cX}(h: ∀w:World,QZ w->Calls P f #[.string ⟨s.toArray⟩] w fun e w' =>e= .returned (.string ⟨t.toArray⟩)/\Below w.heap.size w w'):cN P f [Z rS s] (Z rS t):=fun w S vs hs hv=>by
 match vs,hv with
 |[v],⟨H,_⟩=>
  obtain rfl:=uu.1 H
  refine(My (h w hs.tab) (fun w' hr=>by cases hr.1)).mono fun e w' ⟨⟨he,A⟩,hd⟩=>?_
  obtain⟨k1,k2⟩:=RQ hs A hd
  exact⟨_,S,he,k1,k2,uu.2 rfl⟩

def oV(xs:List Int):cX:=xs.map fun n=>UInt8.ofNat n.toNat
def G5: ∀(xs:List Int) (r:ByteArray),xs.foldl (fun r n=>r.push (UInt8.ofNat n.toNat)) r=⟨r.data++(oV xs).toArray⟩
 |[],r=>by simp [oV]
 |x::xs,r=>by
  rw [List.foldl_cons,G5 xs]
  simp [oV,ByteArray.push]
def CR{k:IntKind}{S:SH}: ∀{xs:List Int} {cs:List Value},ul (rI k) S cs xs->cs=xs.map (Value.int k)
 |[],cs,h=>by rw [show cs=[]from h];rfl
 |x::xs,cs,⟨a,b,e,H,J⟩=>by
  rw [e,show a=[.int k x]from H,CR J]
  rfl
variable{ps:List MemPlace}
section
variable{ty:TypeId}
def I1{xs:List Int}{st dt:TypeId}(hs:E.P.underlying st=some (.slice e))(he:E.P.underlying e=some (.int .u8))(hd:E.P.underlying dt=some .string)(ti:TI E.P e sz bytes agg z)(hsz:Nat.beq sz 1=true)(D:bk E.N G x (Z (eM (rI .u8)) xs)):cH E O G ⟨dst,.convert st dt x,ty,pos,after,g⟩ (Z rS (oV xs)):= .of_pure fun a w S hsat _ hf=>by
 obtain⟨ad,cap,hv,hle,hmax,hsl⟩:=m4.1 (D S a hf)
 refine⟨.string ⟨(oV xs).toArray⟩,?_,uu.2 rfl⟩
 have key: ∀(ad:Option Addr),IK (rI .u8) S ad xs->(ad=none->xs=[])->(Conv.bytesToString (.slice ad xs.length cap)).run E.P w= .ok (.string ⟨(oV xs).toArray⟩) w:=fun ad h h0=>by
  cases ad with
  |none=>rw [h0 rfl];rfl
  |some p=>
   have hl:(loadCells p xs.length).run E.P w= .ok (xs.map (Value.int .u8)).toArray w:=by
    rcases h with h|⟨b,off,cc,T,fr,H,J,h3⟩
    ·rw [h];rfl
    ·cases H
     obtain⟨c',h4,h5⟩:=hsat.part J (mC h3)
     have h6:xs.length*(rI .u8).sz=xs.length:=by show xs.length*1=_;omega
     rw [h6]at h3 h5
     have h7:=CR h3
     exact xv h4 (h5.trans h7) (by simp)
   rw [run_bytesToString w p xs.length cap xs hl,G5]
   simp [ByteArray.empty,ByteArray.emptyWithCapacity]
   rfl
 simp [execOp,hv,run_convert_bytes_string w st dt e _ _ _ hs he hd,key ad hsl (fun h=>by
  rcases hsl with H|⟨b,off,cc,T,fr,H,_⟩
  ·exact H
  ·rw [h]at H;cases H)]
def Rs(ha:E.P.underlying t=some (.array n e))(ti:TI E.P e sz bytes agg z)(hn:Nat.ble n maxLen=true)(D:bk E.N G x (bo (qD r n) xs)):cH E O G ⟨dst,.slice t x none none none,ty,pos,after,g⟩ (Z (eM r) xs):= .of_pure fun a w S _ _ hf=>by
 obtain⟨b,off,c,T,fr,H,J,h3,h4⟩:=D S a hf
 have hz:(⟨b,off,none⟩:Addr).add 0=⟨b,off,none⟩:=by rw [jA,FT]
 refine⟨.slice (some ⟨b,off,none⟩) n n,?_,m4.2 ⟨_,_,by rw [h3],by omega,uq hn,.inr ⟨b,off,c,T,fr,rfl,J,by rw [h3];exact h4⟩⟩⟩
 by_cases h0:n=0
 ·subst h0
  simp [execOp,H,Instr.sliceAt,jZ ha,ti.sizeOf,Instr.sliceBounds,Instr.sureAddr]
 ·simp [execOp,H,Instr.sliceAt,jZ ha,ti.sizeOf,Instr.sliceBounds,Instr.sureAddr,h0,hz]
def xz{ix:Operand}{i:Int}(M:E.P.underlying t=some (.array n e))(ti:TI E.P e sz bytes agg z)(hsz:r.sz=sz)(hag:r.agg=agg)(D:bk E.N G x (Z (qD r n) xs))(hi:bk E.N G ix (Z (rI k) i))(hy:fz xs i=some y):cH E O G ⟨dst,.index t x ix,ty,pos,after,g⟩ (Z r y):= .of_pure fun a w S _ _ hf=>by
 obtain⟨cs,H,J,h3⟩:=D S a hf
 have h1' :a.eval x= .agg cs.toArray:=H
 have h4:a.eval ix= .int k i:=f8.1 (hi S a hf)
 obtain⟨g1,g2⟩:=kx hy
 have hlt:i.toNat<xs.length:=(kN.1 g2).1
 have V:=CS h3 g2
 have hin:0<=i/\i<(n:Int):=⟨g1,by omega⟩
 refine⟨r.val ((cs.drop (i.toNat*r.sz)).take r.sz),?_,_,rfl,V⟩
 have hp:(part e cs.toArray (i.toNat*sz)).run E.P w= .ok (r.val ((cs.drop (i.toNat*r.sz)).take r.sz)) w:=by
  subst hsz
  subst hag
  have hl:=r.len V
  unfold part
  simp only [sA,ti.isAgg,tJ]
  cases hA:r.agg with
  |true=>
   simp [ti.sizeOf,Rp.val,hA]
  |false=>
   have H:=r.sc hA
   rw [H,FS]at hl ⊢
   cases hd:cs.drop i.toNat with
   |nil=>rw [hd]at hl;simp at hl
   |cons v l=>
    have hv:cs[i.toNat]? =some v:=by
     have:=y0 (xs:=cs) (i:=i.toNat) (j:=0)
     rw [hd]at this
     simpa using this.symm
    simp [Rp.val,hA,hv]
 simp [execOp,h1',h4,Instr.index,asIntOf,jZ M,hin,ti.sizeOf,hp]

def vg(s:cX)(i:Nat):Nat×Nat:=Utf8.decode ⟨s.toArray⟩ i
def vJ(s:cX):Nat->Nat->List (Int×Int)
 |0,_=>[]
 |f+1,i=>if i<s.length then((i:Int),((vg s i).1:Int))::vJ s f (i+(vg s i).2)else []
def Lw(s:cX):List (Int×Int):=vJ s (s.length+1) 0
def Wy(s:cX)(i:Nat):1<=(vg s i).2:=by
 unfold vg Utf8.decode
 simp only []
 repeat' split
 all_goals simp
def H6(r:Nat)(s:cX)(left:List (Int×Int)):OE where
 fp:=fun j=>j=r
 p:=fun w S=>S r=none/\ ∃pos f,w.heap[r]? =some (.stringIter ⟨s.toArray⟩ pos)/\left=vJ s f pos/\s.length<pos+f
 here:=by
  rintro w S ⟨_,pos,f,h,_⟩ j rfl
  exact(BA.1 h).1
 kept:=by
  rintro C w w' S S' ⟨h0,pos,f,h,J⟩ k hC
  have hlt:=(BA.1 h).1
  exact⟨by rw [k.old r hlt (hC r rfl)];exact h0,pos,f,by rw [k.heap r hlt (hC r rfl)];exact h,J⟩
def ME(M:E.P.underlying t=some .string)(D:bk E.N G x (Z rS s))(hd:Nat.blt ah E.N.n=true)(k: ∀r,RG E ops aC rest (H6 r s (Lw s)::O) ((ah,tV (an r 0))::G)):RG E ops aC (⟨some ah,.range t x,ty,pos,after,none⟩::rest) O G:= .of rfl fun a w S st=>by
 have hv:a.eval x= .string ⟨s.toArray⟩:=uu.1 (D S a st.facts)
 have hrun:(execOp a.eval ⟨some ah,.range t x,ty,pos,after,none⟩).run E.P w= .ok (.value (an w.heap.size 0)) (w.alloc (.stringIter ⟨s.toArray⟩ 0)):=by
  simp [execOp,hv,Instr.range,jZ M,an]
 refine⟨fun c h=>(by cases h),?_⟩
 rw [hrun]
 obtain⟨he,hs',hno⟩:=lF (w:=w) (.stringIter ⟨s.toArray⟩ 0) st.sat
 exact k w.heap.size _ _ S ⟨st.ext.step0 he,hs',u7 st.own he ⟨hno,0,s.length+1,A1 w _,rfl,by omega⟩ (fun b A=>by rw [show b=_ from A];exact f7 _) st.base_le,st.facts.put hd rfl⟩
def ON{r:Nat}{left:List (Int×Int)}(D:bk E.N G x (tV (an r 0)))(hd:Nat.blt ah E.N.n=true)(h0:left=[]->RG E ops aC rest (H6 r s []::O) ((ah,tNx false)::G))(H: ∀e l,left=e::l->RG E ops aC rest (H6 r s l::O) ((ah,tT [Z rB true,Z (rI .i64) e.1,Z (rI .i32) e.2])::G)):
  RG E ops aC (⟨some ah,.next x true,ty,pos,after,none⟩::rest) (H6 r s left::O) G:= .of rfl fun a w S st=>by
 obtain⟨⟨⟨hno,ps,f,A,hl,hf⟩,hfp⟩,hap,hO⟩:=st.own
 have hv:a.eval x=an r 0:=D S a st.facts
 have hsz:(ByteArray.mk s.toArray).size=s.length:=by simp [ByteArray.size]
 have V:(getObj r).run E.P w= .ok (.stringIter ⟨s.toArray⟩ ps) w:=by
  simp [getObj,Sem.run,A]
 by_cases hp:ps<s.length
 ·obtain⟨f,rfl⟩: ∃f',f=f' +1:=⟨f-1,by omega⟩
  have hl2:left=((ps:Int),((vg s ps).1:Int))::vJ s f (ps+(vg s ps).2):=by rw [hl,vJ,cx hp]
  have hset:(setObj r (.stringIter ⟨s.toArray⟩ (ps+(vg s ps).2))).run E.P w= .ok () {w with heap:=w.heap.setIfInBounds r (.stringIter ⟨s.toArray⟩ (ps+(vg s ps).2))}:=by
   simp [setObj,Sem.run,A]
  have hrun:(execOp a.eval ⟨some ah,.next x true,ty,pos,after,none⟩).run E.P w= .ok (.value (.tuple #[.bool true,.int .i64 ps,.int .i32 (vg s ps).1])) {w with heap:=w.heap.setIfInBounds r (.stringIter ⟨s.toArray⟩ (ps+(vg s ps).2))}:=by
   have h3:(Instr.next (an r 0) true ty).run E.P w= .ok (.tuple #[.bool true,.int .i64 ps,.int .i32 (vg s ps).1]) {w with heap:=w.heap.setIfInBounds r (.stringIter ⟨s.toArray⟩ (ps+(vg s ps).2))}:=by
    unfold Instr.next an
    simp only [sA,V,tJ,hsz,hp,jb]
    rw [show Utf8.decode ⟨s.toArray⟩ ps=vg s ps from rfl]
    simp only [sA,hset,tJ]
    rfl
   simp [execOp,hv,h3]
  refine⟨fun c h=>(by cases h),?_⟩
  rw [hrun]
  have hblt:=(BA.1 A).1
  have hx' :lq (fun k=> ∃f∈[H6 r s left],f.fp k) w S {w with heap:=w.heap.setIfInBounds r (.stringIter ⟨s.toArray⟩ (ps+(vg s ps).2))} S:=
   ⟨rfl,rfl,rfl,f7 _,by simp,fun k _ hk=>by
    have:r≠k:=fun e=>hk ⟨_,O8 _,e.symm⟩
    simp [this],SH.le_refl _,fun _ _ _=>rfl⟩
  have hs' :mU {w with heap:=w.heap.setIfInBounds r (.stringIter ⟨s.toArray⟩ (ps+(vg s ps).2))} S:=st.sat.same fun k o hk=>by
   have:r≠k:=fun e=>by subst e;rw [hno]at hk;cases hk
   simp [this]
  have hnew:(H6 r s (vJ s f (ps+(vg s ps).2))).p {w with heap:=w.heap.setIfInBounds r (.stringIter ⟨s.toArray⟩ (ps+(vg s ps).2))} S:=
   ⟨hno,_,f,by simp [hblt],rfl,by have:=Wy s ps;omega⟩
  refine H _ _ hl2 _ _ S ((st.turn (O1:=[H6 r s left]) (O2:=[H6 r s (vJ s f (ps+(vg s ps).2))]) hx' hs' ⟨⟨hnew,fun k hk=> .inl (jR _)⟩,fun _ h=>(by cases h),trivial⟩ (fun k ⟨g,V,hk⟩=>?_)).put hd ?_)
  ·have:g=H6 r s (vJ s f (ps+(vg s ps).2)):=by simpa using V
   subst this
   exact .inl ⟨_,O8 _,hk⟩
  ·exact⟨[.bool true,.int .i64 ps,.int .i32 (vg s ps).1],rfl,kP.2 rfl,f8.2 rfl,f8.2 rfl,trivial⟩
 ·have hl2:left=[]:=by
   rw [hl]
   cases f with
   |zero=>rfl
   |succ f=>rw [vJ,cm hp]
  have hrun:(execOp a.eval ⟨some ah,.next x true,ty,pos,after,none⟩).run E.P w= .ok (.value (.tuple #[.bool false])) w:=by
   have h3:(Instr.next (an r 0) true ty).run E.P w= .ok (.tuple #[.bool false]) w:=by
    unfold Instr.next an
    simp only [sA,V,tJ,hsz,hp,jh]
    rfl
   simp [execOp,hv,h3]
  refine⟨fun c h=>(by cases h),?_⟩
  rw [hrun]
  subst hl2
  exact h0 rfl _ _ S (st.put hd ⟨[],rfl⟩)
def Bh{t:Ty}{u:List Ty}{i:Nat}(hu:u[i]? =some t)(D:bk E.N G x (tT u)):cH E O G ⟨dst,.extract x i,ty,pos,after,g⟩ t:=GO hu D
def Zv{tD:List β->Prop}{Of:List β->List OE}{Gf:mM}(h: ∀l,tD l->(∀l2,l2.length<l.length->tD l2->LG E aC c (Of l2) Gf)->LG E aC c (Of l) Gf)(l:List β)(hz:tD l):LG E aC c (Of l) Gf:=by
 have key: ∀(n:Nat) (l:List β),l.length<=n->tD l->LG E aC c (Of l) Gf:=by
  intro n
  induction n with
  |zero=>intro l hn hz;exact h l hz fun l2 J _=>absurd J (by omega)
  |succ n ih=>intro l hn hz;exact h l hz fun l2 J hz2=>ih l2 (by omega) hz2
 exact key l.length l (f7 _) hz
end

abbrev NG:=Nat->(Option Nat×Nat)×(Nat->Option Nat×Nat)
inductive NPl where
 |o
 |i (k:Nat)
 |l (k j:Nat)
section
def hd2(q:Nat->Option Nat×Nat)(zs:List (List α)):List Value:=zs.mapIdx fun j z=>Y (q j).1 (q j).2 z.length
def hd1(prj:β->List (List α))(g:NG)(x:List β):List Value:=x.mapIdx fun k y=>Y (g k).1.1 (g k).1.2 (prj y).length
def nsB(prj:β->List (List α))(l:Option Nat)(g:NG)(x:List β)(h:Option (Nat×Nat)):NPl->Option Nat
 | .o=>l
 | .i k=>(x[k]?).bind fun _=>(g k).1.1
 | .l k j=>if h=some (k,j)then none else((x[k]?).bind fun y=>(prj y)[j]?).bind fun _=>((g k).2 j).1
structure nstP(prj:β->List (List α))(r:Rp α)(T1 T2 T3:TypeId)(l:Option Nat)(cap n:Nat)(g:NG)(x:List β)(h:Option (Nat×Nat))(w:World)(S:SH):Prop where
 len:x.length=n
 out:AY false rV T1 l cap (hd1 prj g x) w S
 inn: ∀k y,x[k]? =some y->AY false rV T2 (g k).1.1 (g k).1.2 (hd2 (g k).2 (prj y)) w S
 lvs: ∀k y j z,x[k]? =some y->(prj y)[j]? =some z->h≠some (k,j)->AY true r T3 ((g k).2 j).1 ((g k).2 j).2 z w S
 inj: ∀s t b,nsB prj l g x h s=some b->nsB prj l g x h t=some b->s=t
variable{prj:β->List (List α)}{T1 T2 T3:TypeId}{l:Option Nat}{g:NG}{x:List β}{h:Option (Nat×Nat)}
end
section
variable{prj:β->List (List α)}{T1 T2 T3:TypeId}{l:Option Nat}{g:NG}{x:List β}{h:Option (Nat×Nat)}
variable{ty:TypeId}{gd:Option (Nat×Bool)}
open Classical in
noncomputable def ab0(w:World)(S:SH)(P:Nat->Prop):SH:=fun b=>if P b then w.heap[b]? else S b
def g0(hs:List (Option Nat×Nat)):NG:=fun k=>(hs.getD k (none,0),fun _=>(none,0))
def tsB(l:Option Nat)(q:Nat->Option Nat×Nat)(zs:List (List α))(h:Option Nat):Option Nat->Option Nat
 |none=>l
 |some j=>if h=some j then none else(zs[j]?).bind fun _=>(q j).1
structure rowP(r:Rp α)(T2 T3:TypeId)(l:Option Nat)(cap n:Nat)(q:Nat->Option Nat×Nat)(zs:List (List α))(h:Option Nat)(w:World)(S:SH):Prop where
 len:zs.length=n
 inn:AY false rV T2 l cap (hd2 q zs) w S
 lvs: ∀j z,zs[j]? =some z->h≠some j->AY true r T3 (q j).1 (q j).2 z w S
 inj: ∀s t b,tsB l q zs h s=some b->tsB l q zs h t=some b->s=t
variable{q:Nat->Option Nat×Nat}{zs:List (List α)}{k:Option Nat}
end

def Ih(es:List Bool)(done:Array Bool):List Nat:=(List.range es.length).filter fun k=>(es[k]?).getD false&&done.getD k false
def Vh(es:List Bool)(i:Nat)(s:List Nat):List Nat:=(List.range es.length).filter fun k=>Nat.beq k i||s.contains k
def Zl:List Nat->List Nat->Bool
 |[],[]=>true
 |a::s,b::t=>Nat.beq a b&&Zl s t
 |_,_=>false
def Ok: ∀{s t:List Nat},Zl s t=true->s=t
 |[],[],_=>rfl
 |a::s,b::t,h=>by
  simp only [Zl,jM]at h
  rw [qZ h.1,Ok h.2]
 |[],_::_,h=>by cases h
 |_::_,[],h=>by cases h
def Sm:List (List Nat×((Nat->OI)->List OE))->List Nat->(Nat->OI)->List OE
 |[],_,_=>[]
 |p::r,s,σ=>bif Zl p.1 s then p.2 σ else Sm r s σ
def CX{k:Nat}:k∈Ih es done↔es[k]? =some true/\done.getD k false=true:=by
 unfold Ih
 rw [List.mem_filter,List.mem_range,jM]
 constructor
 ·rintro⟨H,J,h3⟩
  refine⟨?_,h3⟩
  rw [lr H]at J ⊢
  simpa using J
 ·rintro⟨H,J⟩
  exact⟨(kN.1 H).1,by rw [H];rfl,J⟩
def RW{i:Nat}(h:es[i]? =some false):Ih es (done.setIfInBounds i true)=Ih es done:=by
 unfold Ih
 refine List.filter_congr fun k hk=>?_
 by_cases hik:i=k
 ·subst hik;rw [h];rfl
 ·rw [yK false hik]
def Wx{i:Nat}(h:es[i]? =some true)(hs:i<done.size):Ih es (done.setIfInBounds i true)=Vh es i (Ih es done):=by
 unfold Vh
 conv=>lhs;unfold Ih
 refine List.filter_congr fun k hk=>?_
 by_cases hik:i=k
 ·subst hik;simp [h,hs]
 ·rw [yK false hik]
  have A:Nat.beq k i=false:=by
   cases A:Nat.beq k i with
   |false=>rfl
   |true=>exact absurd (qZ A).symm hik
  rw [A,Bs,xk,KU,CX,jM]
  constructor
  ·rintro⟨H,J⟩
   refine⟨?_,J⟩
   cases he:es[k]? with
   |none=>rw [he]at H;cases H
   |some b=>rw [he]at H;simpa using H
  ·rintro⟨H,J⟩
   exact⟨by rw [H];rfl,J⟩
def IF:List Nat->List (List Nat)
 |[]=>[[]]
 |k::l=>(IF l).map (k:: ·)++IF l
def Fi(es:List Bool):List Nat:=(List.range es.length).filter fun k=>(es[k]?).getD false
def zN(p:Nat->Bool): ∀l:List Nat,l.filter p∈IF l
 |[]=>Bx.2 rfl
 |k::l=>by
  unfold IF
  rw [Bv]
  by_cases h:p k=true
  ·rw [List.filter_cons_of_pos h]
   exact .inl (Br.2 ⟨_,zN p l,rfl⟩)
  ·rw [List.filter_cons_of_neg h]
   exact .inr (zN p l)
def TU(es:List Bool)(done:Array Bool):Ih es done∈IF (Fi es):=by
 have:Ih es done=(Fi es).filter fun k=>done.getD k false:=by
  unfold Ih Fi
  rw [List.filter_filter]
  refine List.filter_congr fun k _=>Bool.and_comm ..
 rw [this]
 exact zN _ _
def noE(L:List Oper)(es:List Bool)(i:Nat)(s:List Nat):Bool:=
 s.contains i||(Fi es).any fun k=>if s.contains k then o0 L L.length k i||(Fi es).any fun j=> !s.contains j&&o0 L L.length k j else o0 L L.length i k
def QS(L:List Oper)(es:List Bool)(i:Nat)(aas:List (List Nat)):Bool:=(IF (Fi es)).all fun s=>noE L es i s||aas.any fun a=>Zl a s
def MP{α:Type}(p:α->Prop):List α->Prop
 |[]=>True
 |a::l=>p a/\MP p l
def MP.mem{p:α->Prop}: ∀{l:List α},MP p l-> ∀a∈l,p a
 |_::_,⟨h,_⟩,_,.head _=>h
 |_::_,⟨_,h⟩,_,.tail _ hm=>MP.mem h _ hm
abbrev Zz:=List (List Nat×((Nat->OI)->List OE))
def DT(E:En)(G:mM)(L:List Oper)(ts:List TS)(Ss:Zz)(es0:List Bool):Nat->List Oper->List Bool->Prop
 |_,[],_=>True
 |i,o::rest,false::es=>(∃(needs:List NS) (t:TS) (aas:List (List Nat)),ts[i]? =some t/\yX G ts needs/\(needs.all fun n=>q0 L o i (n.at fun _=>oD))=true/\ft i o=true/\RX L es0 i t=true/\QS L es0 i aas=true/\o.dst.isSome=true/\
   MP (fun s=> ∀σ,bg E (Sm Ss s σ) L.toArray (yP needs σ) o (t.at σ)) aas)/\DT E G L ts Ss es0 (i+1) rest es
 |i,o::rest,true::es=>(∃(needs:List NS) (t:TS) (aas:List (List Nat×List Nat)),ts[i]? =some t/\yX G ts needs/\(needs.all fun n=>q0 L o i (n.at fun _=>oD))=true/\ft i o=true/\RX L es0 i t=true/\QS L es0 i (aas.map (·.1))=true/\(aas.all fun p=>Zl (Vh es0 i p.1) p.2)=true/\
   MP (fun p:List Nat×List Nat=> ∀σ,iC E L.toArray (Sm Ss p.1 σ) (yP needs σ) o (fun x=>Sm Ss p.2 (upd σ i x)) (fun x=>t.at (upd σ i x))) aas)/\DT E G L ts Ss es0 (i+1) rest es
 |_,_::_,[]=>False
def DT.get{ts:List TS}{Ss:Zz}{es0:List Bool}: ∀(r:List Oper) (es:List Bool) (k:Nat),DT E G L ts Ss es0 k r es-> ∀(j:Nat) (o:Oper),r[j]? =some o->
    ∃e,es[j]? =some e/\ ∃(needs:List NS) (t:TS),ts[k+j]? =some t/\yX G ts needs/\(needs.all fun n=>q0 L o (k+j) (n.at fun _=>oD))=true/\ft (k+j) o=true/\RX L es0 (k+j) t=true/\
      (match e with
       |false=>o.dst.isSome=true/\ ∃aas,QS L es0 (k+j) aas=true/\MP (fun s=> ∀σ,bg E (Sm Ss s σ) L.toArray (yP needs σ) o (t.at σ)) aas
       |true=> ∃aas:List (List Nat×List Nat),QS L es0 (k+j) (aas.map (·.1))=true/\(aas.all fun p=>Zl (Vh es0 (k+j) p.1) p.2)=true/\MP (fun p:List Nat×List Nat=> ∀σ,iC E L.toArray (Sm Ss p.1 σ) (yP needs σ) o (fun x=>Sm Ss p.2 (upd σ (k+j) x)) (fun x=>t.at (upd σ (k+j) x))) aas):=by
  intro r
  induction r with
  |nil=>intro es k _ j o h;simp at h
  |cons p r ih=>
    intro es k h j o ho
    cases es with
    |nil=>exact h.elim
    |cons e es=>
      cases e with
      |false=>
        obtain⟨⟨needs,t,aas,g1,g2,g3,g4,g5,g6,g7,g8⟩,J⟩:=h
        cases j with
        |zero=>
          simp at ho;subst ho
          exact⟨false,rfl,needs,t,g1,g2,g3,g4,g5,g7,aas,g6,g8⟩
        |succ j=>
          obtain⟨e',g1,g2⟩:=ih es (k+1) J j o (by simpa using ho)
          refine⟨e',by simpa using g1,?_⟩
          rw [show k+1+j=k+(j+1)from by omega]at g2
          exact g2
      |true=>
        obtain⟨⟨needs,t,aas,g1,g2,g3,g4,g5,g6,g7,g8⟩,J⟩:=h
        cases j with
        |zero=>
          simp at ho;subst ho
          exact⟨true,rfl,needs,t,g1,g2,g3,g4,g5,aas,g6,g7,g8⟩
        |succ j=>
          obtain⟨e',g1,g2⟩:=ih es (k+1) J j o (by simpa using ho)
          refine⟨e',by simpa using g1,?_⟩
          rw [show k+1+j=k+(j+1)from by omega]at g2
          exact g2
structure XI(E:En)(G:mM)(l:List Oper)(ts:List TS)(Ss:Zz)(es:List Bool)(done:Array Bool)(a:Act)(w:World)(S:SH)(σ:Nat->OI):Prop where
 ext:lq E.B E.w0 E.S0 w S
 sat:mU w S
 own:dA E.base E.B w S (Sm Ss (Ih es done) σ)
 size:a.tmps.size=E.N.n
 defers:a.defers=E.N.ds
 dsz:done.size=l.length
 down: ∀j o,l[j]? =some o->done.getD j false=true-> ∀e∈o.after,Region.binds .any e=true->done.getD e.on false=true
 old: ∀k t,look G k=some t->(∀j o,l[j]? =some o->done.getD j false=true->o.dst≠some k)->t.p S (a.tmps.getD k undef)
 new: ∀j o ah p,l[j]? =some o->done.getD j false=true->o.dst=some ah->ts[j]? =some p->(p.at σ).p S (a.tmps.getD ah undef)
 deps: ∀j p,done.getD j false=true->ts[j]? =some p-> ∀k∈p.1,done.getD k false=true
section
variable{ts:List TS}{Ss:Zz}
def XI.need(h:XI E G L ts Ss es done a w S σ){i:Nat}(hi:L[i]? =some o)(hun:done.getD i true=false)(hwait: ∀e∈o.after,Region.binds .any e=true->done.getD e.on false=true){needs:List NS}(H:yX G ts needs)(J:(needs.all fun n=>q0 L o i (n.at fun _=>oD))=true):dm E.N S a (yP needs σ):=by
 have hlt:i<done.size:=by rw [h.dsz];exact(kN.1 hi).1
 have hun' :done.getD i false=false:=by
  simp [hlt]at hun ⊢;exact hun
 refine⟨h.size,h.defers,?_⟩
 have key: ∀n∈needs,(n.ty σ).p S (a.tmps.getD n.slot undef):=by
  intro n hn
  have hs:=ph.1 J n hn
  have ho:=H.mem n hn
  unfold q0 NS.at at hs
  unfold WP at ho
  cases hsrc:n.src with
  |some j=>
   rw [hsrc]at hs ho
   simp only [jM]at hs
   obtain⟨hs1,hs2⟩:=hs
   cases hj:L[j]? with
   |none=>rw [hj]at hs1;cases hs1
   |some p=>
    rw [hj]at hs1
    cases hd:p.dst with
    |none=>simp only [hd]at hs1;cases hs1
    |some ah=>
     simp only [hd]at hs1
     have hd' :=qZ hs1
     subst hd'
     have hdone:done.getD j false=true:=by
      unfold EH at hs2
      obtain⟨e,he0,A⟩:=EZ.1 hs2
      have he:e∈o.after:=by simpa using he0
      simp only [jM]at A
      have:=hwait e he A.2
      rwa [qZ A.1]at this
     have hm:=ho σ
     cases hf:ts[j]? with
     |none=>rw [hf]at hm;simp at hm
     |some f=>
      rw [hf]at hm
      have e:f.at σ=n.ty σ:=by simpa using hm
      rw [<-e]
      exact h.new j p n.slot f hj hdone hd hf
  |none=>
   rw [hsrc]at hs ho
   refine h.old _ _ (ho σ) fun j p hj hdone hd=>?_
   have:=ph.1 hs p (uo hj)
   simp only [hd,Nat.beq_refl,qY,Bs]at this
   unfold EH at this
   obtain⟨e,he0,A⟩:=EZ.1 this
   have he:e∈p.after:=by simpa using he0
   simp only [jM]at A
   have h3:=h.down j p hj hdone e he A.2
   rw [qZ A.1]at h3
   rw [h3]at hun'
   cases hun'
 clear H J
 intro k t hk
 unfold yP at hk
 induction needs with
 |nil=>simp [kG,look]at hk
 |cons n needs ih=>
  simp only [uM]at hk
  unfold kG look at hk
  by_cases A:Nat.beq n.slot k=true
  ·have hb' :Nat.beq (n.at σ).slot k=true:=A
   rw [hb']at hk
   have:=qZ A
   subst this
   have h9:some (n.at σ).ty=some t:=by simpa using hk
   have e:n.ty σ=t:=rC h9
   rw [<-e]
   exact key n (oh ..)
  ·rw [DB]at A
   have hb' :Nat.beq (n.at σ).slot k=false:=A
   rw [hb']at hk
   exact ih (fun m hm=>key m (oO _ hm)) hk
def XI.step{σ' :Nat->OI}(h:XI E G L ts Ss es done a w S σ){i:Nat}{p0:TS}{C:Nat->Prop}(hi:L[i]? =some o)(hdN: ∀ah,o.dst=some ah->ah<E.N.n)(hs2: ∀ah,o.dst=some ah-> ∀j p,L[j]? =some p->done.getD j false=true->p.dst=some ah->i=j)(hwait: ∀e∈o.after,Region.binds .any e=true->done.getD e.on false=true)(M:ts[i]? =some p0)(hun:done.getD i true=false)(hdep: ∀k∈p0.1,k=i\/done.getD k false=true)(hext:lq C w S w' S')(hC: ∀b,C b->E.base<=b\/E.B b)(hsat:mU w' S')(hown:dA E.base E.B w' S' (Sm Ss (Ih es (done.setIfInBounds i true)) σ'))(hσ: ∀k,k≠i->σ' k=σ k)(hv:(p0.at σ').p S' v):
  XI E G L ts Ss es (done.setIfInBounds i true) (a.put o.dst v) w' S' σ' :=by
 have hlt:i<done.size:=by rw [h.dsz];exact(kN.1 hi).1
 have hset: ∀j,(done.setIfInBounds i true).getD j false=true->j=i\/done.getD j false=true:=fun j hj=>by
  by_cases hij:i=j
  ·exact .inl hij.symm
  ·rw [yK false hij]at hj;exact .inr hj
 have hseti:(done.setIfInBounds i true).getD i false=true:=by simp [hlt]
 have hun' :done.getD i false=false:=by simp [hlt]at hun ⊢;exact hun
 have hput: ∀k,(∀ah,o.dst=some ah->ah≠k)->(a.put o.dst v).tmps.getD k undef=a.tmps.getD k undef:=fun k hk=>by
  cases hd:o.dst with
  |none=>rfl
  |some ah=>
   have hda:ah<a.tmps.size:=by rw [h.size];exact hdN ah hd
   rw [wx hda,cm (hk ah hd)]
 refine⟨h.ext.step hext hC,hsat,hown,?_,?_,by simp [h.dsz],fun j p hj hdone e he A=>?_,fun k u hk hno=>?_,fun j p d' u hj hdone hd' hu=>?_,fun j u hj hu k hk=>?_⟩
 ·cases o.dst with
  |none=>exact h.size
  |some ah=>simp [Act.put,h.size]
 ·cases o.dst with
  |none=>exact h.defers
  |some ah=>exact h.defers
 ·rcases hset j hdone with rfl|hj'
  ·rw [hi]at hj
   have:o=p:=by simpa using hj
   subst this
   exact AP (hwait e he A)
  ·exact AP (h.down j p hj hj' e he A)
 ·rw [hput k fun ah hd e=>hno i o hi hseti (by rw [hd,e])]
  exact u.mono hext.keep (h.old k u hk fun j p hj hdone=>hno j p hj (AP hdone))
 ·by_cases hij:j=i
  ·subst hij
   rw [hi]at hj
   have:o=p:=by simpa using hj
   subst this
   have hda:d' <a.tmps.size:=by rw [h.size];exact hdN d' hd'
   rw [hd',wx hda,cx rfl]
   rw [M]at hu
   have:p0=u:=by simpa using hu
   subst this
   exact hv
  ·have hj' :=(hset j hdone).resolve_left hij
   rw [hput d' fun ah hd e=>by subst e;exact hij (hs2 ah hd j p hj hj' hd').symm]
   have e1:u.at σ' =u.at σ:=congrArg u.2 (List.map_congr_left fun k hk=>hσ k fun e=>by
     subst e
     rw [h.deps j u hj' hu k hk]at hun';cases hun')
   rw [e1]
   exact Ty.mono _ hext.keep (h.new j p d' u hj hj' hd' hu)
 ·rcases hset j hj with rfl|hj'
  ·rw [M]at hu
   have:p0=u:=by simpa using hu
   subst this
   rcases hdep k hk with rfl|h'
   ·exact hseti
   ·exact AP h'
  ·exact AP (h.deps j u hj' hu k hk)
end
def KY{l t:List Oper}{ts:List TS}{Ss:Zz}(hsl:zw E.N.n [] l=true)(hlen:ts.length=l.length)(hesl:es.length=l.length)(hd:DT E G (l++t) ts Ss es 0 l es)(M:Ba (l++t) l.length t.length=true)(hQ: ∀a w S σ,St E (Sm Ss (Fi es) σ) (LM l (UB ts σ) G) a w S->wpListIn (fw E.r) 0 E.P (l++t).toArray aC t a w):
  ∀(fuel:Nat) (done:Array Bool) (a:Act) (w:World) (S:SH) (σ:Nat->OI),mN done=fuel->(∀j,l.length<=j->done.getD j false=false)->XI E G (l++t) ts Ss es done a w S σ->wpAnyIn (fw E.r) 0 E.P .any (l++t).toArray aC fuel done a w:=by
 have hL1: ∀i o,i<l.length->(l++t)[i]? =some o->l[i]? =some o:=fun i o hi h=>by rwa [Cq hi]at h
 have hL2: ∀i o,l[i]? =some o->(l++t)[i]? =some o:=fun i o h=>by rw [Cq (kN.1 h).1];exact h
 have htail: ∀m o,l.length<=m->(l++t)[m]? =some o->yx (l++t) m=true/\ft m o=true:=fun m o hm ho=>by
  have hml:m<(l++t).length:=(kN.1 ho).1
  rw [pg]at hml
  unfold Ba at M
  have:=ph.1 M (m-l.length) (by simp;omega)
  rw [show l.length+(m-l.length)=m from by omega,ho]at this
  simp only [jM]at this
  exact⟨this.1,this.2.1⟩
 have hget:=fun i o (hi:l[i]? =some o)=>DT.get l es 0 hd i o hi
 have hedge: ∀i o,(l++t)[i]? =some o->ft i o=true:=fun i o hi=>by
  rcases oP i l.length with h|h
  ·obtain⟨_,_,_,_,_,_,_,h,_⟩:=hget i o (hL1 i o h hi)
   simpa using h
  ·exact(htail i o h hi).2
 obtain⟨hs1,hs2⟩:=EK l [] hsl
 have fin: ∀fuel done a w S σ,mN done=fuel->(∀j,l.length<=j->done.getD j false=false)->XI E G (l++t) ts Ss es done a w S σ->(∀i,i<l.length->done.getD i false=true)->wpAnyIn (fw E.r) 0 E.P .any (l++t).toArray aC fuel done a w:=by
  intro fuel done a w S σ hu hfree h hall
  have hdn:Ih es done=Fi es:=by
   unfold Ih Fi
   refine List.filter_congr fun k hk=>?_
   rw [hall k (by rw [<-hesl];exact List.mem_range.1 hk),Bool.and_true]
  have hown:=h.own
  rw [hdn]at hown
  refine BB (n:=l.length) (fun m o hm ho=>(htail m o hm ho).1) hedge t l.length done fuel a w (f7 _) (by simp) h.dsz (fun j hj=>⟨fun hjd=>?_,fun hlt=>hall j hlt⟩) hu
   (hQ a w S σ ⟨h.ext,h.sat,hown,h.size,h.defers,fun j u hj=>?_⟩)
  ·rcases oP j l.length with h' |h'
   ·exact h'
   ·rw [hfree j h']at hjd;cases hjd
  ·rcases I6 l (UB ts σ) j u (by unfold UB;rw [A2];exact hlen) hj with⟨i,o,H,J,h3⟩|⟨H,J⟩
   ·unfold UB at h3
    rw [Iw]at h3
    cases hf:ts[i]? with
    |none=>rw [hf]at h3;simp at h3
    |some f=>
     rw [hf]at h3
     have e:f.at σ=u:=by simpa using h3
     rw [<-e]
     exact h.new i o j f (hL2 i o H) (hall i (kN.1 H).1) J hf
   ·refine h.old j u H fun i o ho hdn=>?_
    rcases oP i l.length with h' |h'
    ·exact J o (uo (hL1 i o h' ho))
    ·rw [hfree i h']at hdn;cases hdn
 have lower: ∀done a w S σ i,(∀j,l.length<=j->done.getD j false=false)->XI E G (l++t) ts Ss es done a w S σ->i∈Region.ready .any (l++t).toArray done->l.length<=i-> ∀j,j<l.length->done.getD j false=true:=by
  intro done a w S σ i hfree h hi hge j hj
  obtain⟨hun,p,hp,hwait⟩:=vA.1 hi
  have hp' :(l++t)[i]? =some p:=by simpa using hp
  have hcov:=(htail i p hge hp').1
  unfold yx at hcov
  have hre:=ph.1 hcov j (by simp;omega)
  exact gW h.down _ i j (fun q hq e he A=>by
   have:q=p:=by rw [hp']at hq;simpa using hq.symm
   subst this
   exact hwait e he A) hre
 intro fuel
 induction fuel with
 |zero=>
  intro done a w S σ hu hfree h
  exact fin 0 done a w S σ hu hfree h fun i hi=>wn hu (by rw [h.dsz,pg];omega)
 |succ fuel ih=>
  intro done a w S σ hu hfree h
  by_cases hall: ∀i,i<l.length->done.getD i false=true
  ·exact fin _ done a w S σ hu hfree h hall
  have hready0: ∀m i,i<m->i<l.length->Region.ready .any (l++t).toArray done=[]->done.getD i false=true:=by
   intro m
   induction m with
   |zero=>intro i h;omega
   |succ m ihm=>
    intro i him hil hr
    have his:i<done.size:=by rw [h.dsz,pg];omega
    by_cases hdn:done.getD i true=true
    ·rw [<-p7 his];exact hdn
    ·exfalso
     obtain⟨o,ho⟩: ∃o,(l++t)[i]? =some o:=⟨l[i],hL2 i _ (lr hil)⟩
     have hmem:i∈Region.ready .any (l++t).toArray done:=by
      rw [vA]
      refine⟨by simpa using hdn,o,by simpa using ho,fun e he A=>?_⟩
      have:=hedge i o ho
      unfold ft at this
      have:=ph.1 this e (by simpa using he)
      simp only [A,qY,Bs,tM]at this
      exact ihm e.on (by omega) (by omega) hr
     rw [hr]at hmem;cases hmem
  refine⟨fun hr=>absurd (fun i hi=>hready0 (i+1) i (by omega) hi hr) hall,fun i hi=>?_⟩
  have hil:i<l.length:=by
   rcases oP i l.length with h' |h'
   ·exact h'
   ·exact absurd (lower done a w S σ i hfree h hi h') hall
  obtain⟨hun,o,ho,hwait⟩:=vA.1 hi
  have ho' :(l++t)[i]? =some o:=by simpa using ho
  have hol:=hL1 i o hil ho'
  obtain⟨e,he,needs,u,H,J,h3,_,h4,h5⟩:=hget i o hol
  rw [sE]at H h3 h4
  have hF:=h.need ho' hun hwait J h3
  have his:i<done.size:=by rw [h.dsz,pg];omega
  have hun' :done.getD i false=false:=by rw [<-p7 his];exact hun
  have hu' :mN (done.setIfInBounds i true)=fuel:=by have:=sJ hun;omega
  have huq: ∀ah,o.dst=some ah-> ∀j p,(l++t)[j]? =some p->done.getD j false=true->p.dst=some ah->i=j:=fun ah hdd j p hj hjd hpd=>by
   rcases oP j l.length with h' |h'
   ·exact hs2 i j o p ah hol (hL1 j p h' hj) hdd hpd
   ·rw [hfree j h']at hjd;cases hjd
  have hfree' : ∀j,l.length<=j->(done.setIfInBounds i true).getD j false=false:=fun j hj=>by
   rw [yK false (by omega)];exact hfree j hj
  have hbl:E.base<=w.heap.size:=h.ext.size
  have hwaits: ∀q,(l++t)[i]? =some q-> ∀e∈q.after,Region.binds .any e=true->done.getD e.on false=true:=fun q hq e he A=>by
   have:q=o:=by rw [ho']at hq;simpa using hq.symm
   subst this
   exact hwait e he A
  have hdpp: ∀k∈u.1,k=i\/done.getD k false=true:=fun k hk=>by
   have:=ph.1 h4 k hk
   simp only [jM,zg]at this
   rcases this.2 with A|A
   ·exact .inl (qZ A)
   ·exact .inr (gW h.down _ i k hwaits A)
  have hdNN: ∀ah,o.dst=some ah->ah<E.N.n:=fun ah hd=>(hs1 o (uo hol) ah hd).1
  unfold wpOpIn
  rw [ho]
  show if _ then _ else _
  -- just these effects stand
  have hpos:noE (l++t) es i (Ih es done)=false:=by
   rw [Ix]
   intro hno
   unfold noE at hno
   rw [zg]at hno
   rcases hno with hc|hc
   ·have:=(CX.1 (KU.1 hc)).2
    rw [this]at hun';cases hun'
   ·obtain⟨k,hk1,hk2⟩:=EZ.1 hc
    have hke:es[k]? =some true:=by
     unfold Fi at hk1
     rw [List.mem_filter,List.mem_range]at hk1
     have h7:=hk1.2
     rw [lr hk1.1]at h7 ⊢
     simpa using h7
    by_cases hin:(Ih es done).contains k=true
    ·rw [cx hin,zg]at hk2
     have hkd:=(CX.1 (KU.1 hin)).2
     rcases hk2 with A|A
     ·have:=gW h.down _ k i (fun q hq e he A=>h.down k q hq hkd e he A) A
      rw [this]at hun';cases hun'
     ·obtain⟨j,hj1,hj2⟩:=EZ.1 A
      rw [jM,zh]at hj2
      have hje:es[j]? =some true:=by
       unfold Fi at hj1
       rw [List.mem_filter,List.mem_range]at hj1
       have h7:=hj1.2
       rw [lr hj1.1]at h7 ⊢
       simpa using h7
      have hjd:=gW h.down _ k j (fun q hq e he A=>h.down k q hq hkd e he A) hj2.2
      have:=KU.2 (CX.2 ⟨hje,hjd⟩)
      rw [hj2.1]at this;cases this
    ·rw [cm hin]at hk2
     have hkd:=gW h.down _ i k hwaits hk2
     exact hin (KU.2 (CX.2 ⟨hke,hkd⟩))
  have hwin: ∀aas:List (List Nat),QS (l++t) es i aas=true->Ih es done∈aas:=by
   intro aas hw
   unfold QS at hw
   have:=ph.1 hw _ (TU es done)
   rw [hpos,Bs]at this
   obtain⟨b,hb1,hb2⟩:=EZ.1 this
   rw [<-Ok hb2];exact hb1
  cases e with
  |false=>
   simp only at h5
   obtain⟨hdS,aas,hw,h5⟩:=h5
   rw [sE]at hw
   obtain⟨ah,hdd⟩:=Option.isSome_iff_exists.1 hdS
   have h6:=h5.mem _ (hwin aas hw) σ a w S h.sat h.own hF
   have hdq:=RW (done:=done) he
   by_cases hw:Region.wanted o (yielded (l++t).toArray a.tmps)=true
   ·rw [cx hw]at h6 ⊢
    refine mw (fun a' w' ⟨v,S',ha,D,hs,hv⟩=>?_) h6
    subst ha
    exact ih _ _ _ S' _ hu' hfree' (h.step ho' hdNN huq hwait H hun hdpp D (fun _ A=>A.elim) hs (by rw [hdq];exact h.own.ext0 D) (fun _ _=>rfl) hv)
   ·rw [cm hw]at h6 ⊢
    exact⟨fun _ _=>trivial,ih _ _ _ S _ hu' hfree' (h.step ho' hdNN huq hwait H hun hdpp (lq.refl wC _ _) (fun _ A=>A.elim) h.sat (by rw [hdq];exact h.own) (fun _ _=>rfl) h6)⟩
  |true=>
   simp only [sE]at h5
   obtain⟨aas,hw,hins,h5⟩:=h5
   obtain⟨p,hp1,hp2⟩:=Br.1 (hwin _ hw)
   have hp3:=Ok (ph.1 hins p hp1)
   have h6:=h5.mem p hp1 σ a w S h.sat (by rw [hp2];exact h.own) hF hbl
   have hdq:Ih es (done.setIfInBounds i true)=p.2:=by rw [Wx he his,<-hp2,hp3]
   by_cases hw:Region.wanted o (yielded (l++t).toArray a.tmps)=true
   ·rw [cx hw]at h6 ⊢
    refine mw (fun a' w' ⟨v,S',x,ha,D,hs,hown,hv⟩=>?_) h6
    subst ha
    exact ih _ _ _ S' _ hu' hfree' (h.step ho' hdNN huq hwait H hun hdpp D (fun b ⟨f,hf,A⟩=>(dA.mem h.own f (by rw [<-hp2];exact hf)).2 b A) hs (by rw [hdq];exact hown) (fun k hk=>JI σ x hk) hv)
   ·rw [cm hw]at h6 ⊢
    obtain⟨x,hown,hv⟩:=h6
    exact⟨fun _ _=>trivial,ih _ _ _ S _ hu' hfree' (h.step ho' hdNN huq hwait H hun hdpp (lq.refl wC _ _) (fun _ A=>A.elim) h.sat (by rw [hdq];exact hown) (fun k hk=>JI σ x hk) hv)⟩
def HT{id:Nat}(m:Nat)(ts:List TS)(es:List Bool)(Ss:Zz)(hO: ∀σ,Sm Ss [] σ=O)(hm:E.P.follows .mixedOrders=true)(hsl:zw E.N.n [] (L.take m)=true)(hlen:ts.length=(L.take m).length)(hesl:es.length=(L.take m).length)(M:Ba L (L.take m).length (L.drop m).length=true)(hd:DT E G L ts Ss es 0 (L.take m) es)(k: ∀σ:Nat->OI,RG E L.toArray aC (L.drop m) (Sm Ss (Fi es) σ) (LM (L.take m) (UB ts σ) G)):CG E aC (.region id L.toArray true) O G:=fun a w S st=>by
 have hL:L=L.take m++L.drop m:=(uN m L).symm
 generalize L.take m=l at hL hsl hlen hesl M hd k
 generalize L.drop m=t at hL M k
 subst hL
 refine wpIn_region_any hm ?_
 obtain⟨he,hs⟩:=DA (w:=w) st.sat
 have hdn0:Ih es (Array.replicate (l++t).toArray.size false)=[]:=by
  unfold Ih
  refine List.filter_eq_nil_iff.2 fun k hk=>?_
  simp [Bz]
  intro _
  split<;>simp
 refine KY hsl hlen hesl hd M (fun a w S σ st=>k σ a w S st) _ _ _ _ S (fun _=>oD) ?_ (fun j _=>?_)
  ⟨st.ext.step0 he,hs,by rw [hdn0,hO];exact st.own.ext0 he,st.facts.size,st.facts.defers,by simp,fun j o hj hdone=>?_,fun k t hk _=>st.facts.at_ k t hk,fun j o ah t hj hdone=>?_,fun j p hdone=>?_⟩
 ·unfold mN;rw [O7,OZ];simp
 ·simp [Bz];split<;>rfl
 ·simp [Bz]at hdone
  split at hdone<;>simp at hdone
 ·simp [Bz]at hdone
  split at hdone<;>simp at hdone
 ·simp [Bz]at hdone
  split at hdone<;>simp at hdone

def dA.perm(h:O.Perm O'):dA base B w S O->dA base B w S O' :=by
 induction h with
 |nil=>exact id
 |cons x p ih=>
  rintro⟨H,J,h3⟩
  exact⟨H,fun f hf=>J f (p.mem_iff.2 hf),ih h3⟩
 |swap x y l=>
  rintro⟨H,J,h3,h4,h5⟩
  refine⟨h3,fun f hf k hk hfk=>?_,H,fun f hf=>J f (oO _ hf),h5⟩
  rcases gn.1 hf with rfl|hf
  ·exact J x (oh ..) k hfk hk
  ·exact h4 f hf k hk hfk
 |trans _ _ ih1 ih2=>exact fun k=>ih2 (ih1 k)
def wy(O:List OE):List Nat->List OE
 |[]=>[]
 |i::l=>match O[i]? with
  |some e=>e::wy O l
  |none=>wy O l
def CV(O:List OE): ∀a b:List Nat,wy O (a++b)=wy O a++wy O b
 |[],_=>rfl
 |i::a,b=>by
  simp only [yZ,wy]
  split<;>simp [CV O a b]
def NI{a b:List Nat}(h:a.Perm b):(wy O a).Perm (wy O b):=by
 induction h with
 |nil=>exact .nil
 |cons x p ih=>
  simp only [wy]
  split
  ·exact .cons _ ih
  ·exact ih
 |swap x y l=>
  simp only [wy]
  cases D:O[x]? <;>cases hy:O[y]? <;>simp<;>exact .swap ..
 |trans _ _ ih1 ih2=>exact ih1.trans ih2
def LH(O:List OE):wy O (List.range O.length)=O:=by
 have key: ∀n,n<=O.length->wy O (List.range n)=O.take n:=by
  intro n
  induction n with
  |zero=>intro _;rfl
  |succ n ih=>
   intro h
   rw [List.range_succ,CV,ih (by omega)]
   simp only [wy]
   rw [lr (by omega),MU (by omega)]
 rw [key _ (f7 _),A3]
def dA.pick(l:List Nat)(hl:l.isPerm (List.range O.length)=true)(h:dA base B w S O):dA base B w S (wy O l):=
 h.perm (by
  have:=NI (O:=O) (List.isPerm_iff.1 hl)
  rw [LH]at this
  exact this.symm)

section
section
variable{ty:TypeId}
end
def u9{ty:TypeId}{l:Option Nat}{o:Nat}(hm:mh mm r U l cap xs∈O)(hy:fz xs j=some y)(hp:bk E.N G p (tV (dO l o))):
  cH E O G ⟨dst,.nilCheck p,ty,pos,after,g⟩ (tV (dO l o)):=
 .of_pure fun a w S _ ho hF=>by
  have H:a.eval p=dO l o:=hp S a hF
  obtain⟨_,hy'⟩:=kx hy
  obtain⟨b,cur,rfl,_⟩:=r0 (ho.mem _ hm).1 hy'
  exact⟨dO (some b) o,by simp [execOp,H,dO,an],rfl⟩
end
open Go.ChangeShapes Go.WideShapes Go.ChangeAt

variable{h1:Type}{W:World}{enc:TypeId×Value->h1}
section
def Ie(W:World):SH:=fun b=>W.heap[b]?
def X7(W:World)(V: ∀p∈glob,∃c T fr,W.heap[p.1]? =some (.cells c T fr)/\c.toList.take p.2.length=p.2)(M: ∀w' :World,(∀(b:Nat) (o:Obj),W.heap[b]? =some o-> ∃o',w'.heap[b]? =some o' /\HW o o')->QZ w'):mU W (Ie W):=⟨fun _ o h=>⟨o,h,xx o⟩,V,M⟩
def xJ(enc:TypeId×Value->h1)(P:Program)(W:World){α:Type}(t:TypeId)(r:Rp α):Prop:=
 P.cellsOf t=r.sz/\ ∀fuel cs x,DataW.trod enc P W 0 (fun _=>true) true fuel t cs=some x-> ∃y,r.rc (Ie W) cs y
def Sy(h:P.underlying t=some .bool)(hc:P.cellsOf t=1):xJ enc P W t rB:=⟨hc,fun fuel cs x D=>by
 cases fuel with
 |zero=>simp [DataW.trod]at D
 |succ n=>
  unfold DataW.trod at D
  rw [h]at D
  split at D
  all_goals try (injections;done)
  ·exact⟨_,rfl⟩⟩
def xA{α β:Type}{f:α->Option β}: ∀{l:List α} {r:List β},l.mapM f=some r->r.length=l.length/\ ∀(i:Nat) (x:α),l[i]? =some x-> ∃y,r[i]? =some y/\f x=some y
 |[],r,h=>by
  simp at h
  subst h
  exact⟨rfl,fun i x D=>by simp at D⟩
 |a::l,r,h=>by
  rw [List.mapM_cons]at h
  cases hf:f a with
  |none=>rw [hf]at h;simp at h
  |some b=>
   rw [hf]at h
   cases hm:l.mapM f with
   |none=>rw [hm]at h;simp at h
   |some r' =>
    rw [hm]at h
    simp at h
    subst h
    obtain⟨H,J⟩:=xA hm
    refine⟨by simp [H],fun i x D=>?_⟩
    cases i with
    |zero=>simp at D;subst D;exact⟨b,rfl,hf⟩
    |succ i=>exact J i x (by simpa using D)
def Eo{a:Addr}(h:W.cell? a=some v):a.spot=none/\ ∃c E fr,W.heap[a.block]? =some (.cells c E fr)/\c[a.off]? =some v:=by
 unfold World.cell? at h
 cases ho:W.heap[a.block]? with
 |none=>rw [ho]at h;cases h
 |some o=>
  rw [ho]at h
  cases o with
  |cells c E fr=>
   simp only at h
   by_cases hs:a.spot.isSome=true
   ·rw [cx hs]at h;cases h
   ·rw [cm hs]at h
    exact⟨by cases hq:a.spot with
     |none=>rfl
     |some s=>rw [hq]at hs;simp at hs,c,E,fr,rfl,h⟩
  |_=>simp at h
def Jq(a:Addr):a.add 0=a:=by unfold Addr.add;rfl
def OG(h:W.cells? 0 ⟨b,off,none⟩ n=some cs)(hn:0<n): ∃c E fr,W.heap[b]? =some (.cells c E fr)/\cs=(c.toList.drop off).take n:=by
 unfold World.cells? at h
 rw [cx (jR _)]at h
 obtain⟨H,J⟩:=xA h
 obtain⟨v,_,hv⟩:=J 0 0 (by simp [hn])
 obtain⟨_,c,E,fr,h3,h4⟩:=Eo hv
 refine⟨c,E,fr,by simpa [Addr.add] using h3,?_⟩
 apply KP
 intro i
 have hl:cs.length=n:=by simpa using H
 by_cases hi:i<n
 ·obtain⟨v,h5,h6⟩:=J i i (by simp [hi])
  obtain⟨_,c',E',fr',h7,h8⟩:=Eo h6
  rw [jA]at h7 h8
  have h7' :W.heap[b]? =some (.cells c' E' fr'):=h7
  have h3' :W.heap[b]? =some (.cells c E fr):=by simpa [Addr.add] using h3
  rw [h3']at h7'
  injection h7' with h7'
  injection h7' with e1
  subst e1
  rw [h5,DC hi,y0]
  simpa using h8.symm
 ·rw [IA (by omega),IA (by simp;omega)]
def QX{q:Rp α}{len:Nat}{a:Addr}{x:DataW h1×List MemPlace}(h0' :0<q.sz)(hq:xJ enc P W e q)(D:(let elemAt (i:Nat):Option (DataW h1×List MemPlace):=(W.cells? 0 (a.add (i*P.cellsOf e)) (P.cellsOf e)).bind (DataW.trod enc P W 0 (fun _=>true) true n e)
   if 0<=a.block/\len<=cap/\cap<=maxLen then
    ((List.range len).mapM elemAt).bind fun elems=>
     (if(fun _=>true) a.block then(List.range (cap-len)).mapM fun j=>elemAt (len+j)else some []).map fun rest=>
      (DataW.slice (elems.map (·.1)) (rest.map (·.1)),MemPlace.row a ((elems.length+rest.length)*P.cellsOf e)++(elems++rest).flatMap (·.2))
   else none)=some x): ∃y,(eM q).rc (Ie W) [.slice (some a) len cap] y:=by
 simp only at D
 split at D
 ·rename_i hcond
  obtain⟨_,hle,hmax⟩:=hcond
  cases hm:(List.range len).mapM (fun i=>(W.cells? 0 (a.add (i*P.cellsOf e)) (P.cellsOf e)).bind (DataW.trod enc P W 0 (fun _=>true) true n e))with
  |none=>rw [hm]at D;simp at D
  |some elems=>
   obtain⟨hm1,hm2⟩:=xA hm
   rw [hq.1]at hm2
   by_cases hl0:len=0
   ·subst hl0;exact⟨[],some a,cap,rfl,jR _,hmax,.inl rfl⟩
   have hsp0:a.spot=none:=by
    obtain⟨z,_,hz⟩:=hm2 0 0 (by rw [List.getElem?_range (by omega)])
    rw [Nat.zero_mul,Jq]at hz
    cases hcs:W.cells? 0 a q.sz with
    |none=>rw [hcs]at hz;simp at hz
    |some cs1=>
     unfold World.cells? at hcs
     rw [cx (jR _)]at hcs
     obtain⟨_,g2⟩:=xA hcs
     obtain⟨v,_,hv⟩:=g2 0 0 (by simp [h0'])
     rw [Jq]at hv
     exact(Eo hv).1
   have hcell: ∀i,i<len-> ∃c E fr,a.spot=none/\W.heap[a.block]? =some (.cells c E fr)/\ ∃y,q.rc (Ie W) ((c.toList.drop (a.off+i*q.sz)).take q.sz) y:=by
    intro i hi
    obtain⟨z,_,hz⟩:=hm2 i i (by simp [hi])
    cases hcs:W.cells? 0 (a.add (i*q.sz)) q.sz with
    |none=>rw [hcs]at hz;simp at hz
    |some cs1=>
     rw [hcs]at hz
     have hsp:a.spot=none:=hsp0
     obtain⟨ab,ao,az⟩:=a
     simp only at hsp
     subst hsp
     rw [jA]at hcs
     obtain⟨c,E,fr,g1,g2⟩:=OG hcs h0'
     obtain⟨y,hy⟩:=hq.2 n cs1 z hz
     exact⟨c,E,fr,rfl,g1,y,by rw [<-g2];exact hy⟩
   obtain⟨c,E,fr,hsp,A,_⟩:=hcell 0 (by omega)
   have key: ∀m,m<=len-> ∃ys:List α,ys.length=m/\ul q (Ie W) ((c.toList.drop a.off).take (m*q.sz)) ys:=by
    intro m
    induction m with
    |zero=>intro _;exact⟨[],rfl,by simp [ul]⟩
    |succ m ih=>
     intro hm'
     obtain⟨ys,hy1,hy2⟩:=ih (by omega)
     obtain⟨c',E',fr',_,hb',y,hy⟩:=hcell m (by omega)
     rw [A]at hb'
     injection hb' with hb'
     injection hb' with e1
     subst e1
     refine⟨ys++[y],by simp [hy1],?_⟩
     have hsplit:(c.toList.drop a.off).take ((m+1)*q.sz)=(c.toList.drop a.off).take (m*q.sz)++(c.toList.drop (a.off+m*q.sz)).take q.sz:=by
      rw [AO,Nat.one_mul,List.take_add,xR]
     rw [hsplit]
     exact vO hy2 (ND.2 hy)
   obtain⟨ys,hy1,hy2⟩:=key len (f7 _)
   obtain⟨ab,ao,az⟩:=a
   simp only at hsp
   subst hsp
   exact⟨ys,some ⟨ab,ao,none⟩,cap,by rw [hy1],by omega,hmax,.inr ⟨ab,ao,c,E,fr,rfl,A,by rw [hy1];exact hy2⟩⟩
 ·cases D
def oE{q:Rp α}(h:P.underlying t=some (.slice e))(hc:P.cellsOf t=1)(h0:Nat.blt 0 q.sz=true)(hq:xJ enc P W e q):xJ enc P W t (eM q):=⟨hc,fun fuel cs x D=>by
 have h0' :0<q.sz:=by simpa [tM] using h0
 cases fuel with
 |zero=>simp [DataW.trod]at D
 |succ n=>
  unfold DataW.trod at D
  rw [h]at D
  split at D
  all_goals try (injections;done)
  ·exact⟨[],none,0,rfl,f7 _,jR _,.inl rfl⟩
  ·rename_i e' a len cap heq
   injection heq with e1
   injection e1 with e1
   subst e1
   exact QX h0' hq D⟩
def WR(enc:TypeId×Value->h1)(P:Program)(W:World){α:Type}(off:Nat)(l:List (TypeId×Nat))(r:Rp α):Prop:=
 ∀(fuel:Nat) (cs:List Value),cs.length=off+r.sz->(∀f∈l,∃x,DataW.trod enc P W 0 (fun _=>true) true fuel f.1 ((cs.drop f.2).take (P.cellsOf f.1))=some x)-> ∃y,r.rc (Ie W) (cs.drop off) y
def nq{t:Nat}(h:xJ enc P W t r):WR enc P W off [(t,off)] r:=fun fuel cs hl D=>by
 obtain⟨x,D⟩:=D _ (O8 _)
 simp only at D
 rw [h.1,rF (by simp;omega)]at D
 exact h.2 _ _ _ D
def eE{p:Rp α}{t off' :Nat}{l:List (TypeId×Nat)}(h:xJ enc P W t p)(ho:off' =off+p.sz)(hr:WR enc P W off' l q):WR enc P W off ((t,off)::l) (cn p q):=fun fuel cs hl D=>by
 subst ho
 obtain⟨x,hx1⟩:=D _ (oh ..)
 simp only at hx1
 rw [h.1]at hx1
 obtain⟨y,hy⟩:=h.2 _ _ _ hx1
 obtain⟨z,hz⟩:=hr fuel cs (by rw [hl];show off+(p.sz+q.sz)=_;omega) fun f hf=>D f (oO _ hf)
 exact⟨(y,z),_,_,by rw [<-xR];exact(uN _ _).symm,hy,hz⟩
def j0{l:List (TypeId×Nat)}{p:Rp α}{f:β->α}(M:(P.underlying t).map (fun ah=>match ah with| .struct l=>(true,l.toList.map fun f=>(f.type,f.offset))|_=>(false,[]))=some (true,l))(hc:P.cellsOf t=p.sz)(hf: ∀y,∃x,f x=y)(hl:WR enc P W 0 l p):xJ enc P W t (kg p f):=⟨hc,fun fuel cs x D=>by
 obtain⟨fs,H,J⟩: ∃fs,P.underlying t=some (.struct fs)/\fs.toList.map (fun f=>(f.type,f.offset))=l:=by
  cases hu:P.underlying t with
  |none=>rw [hu]at M;cases M
  |some ah=>
   rw [hu]at M
   cases ah<;>simp at M
   exact⟨_,rfl,M⟩
 cases fuel with
 |zero=>simp [DataW.trod]at D
 |succ n=>
  unfold DataW.trod at D
  rw [H]at D
  change (if cs.length=P.cellsOf t then(fs.toList.mapM fun f=>DataW.trod enc P W 0 (fun _=>true) true n f.type ((cs.drop f.offset).take (P.cellsOf f.type))).map (fun xs=>(DataW.agg (xs.map (·.1)),xs.flatMap (·.2)))else none)=some x at D
  split at D
  ·rename_i hlen
   cases hm:fs.toList.mapM (fun f=>DataW.trod enc P W 0 (fun _=>true) true n f.type ((cs.drop f.offset).take (P.cellsOf f.type)))with
   |none=>rw [hm]at D;simp at D
   |some r=>
    obtain⟨_,hm2⟩:=xA hm
    obtain⟨y,hy⟩:=hl n cs (by rw [hlen,hc];omega) (fun g V=>by
     rw [<-J,Br]at V
     obtain⟨f0,hf0,rfl⟩:=V
     obtain⟨i,hi⟩:=List.getElem?_of_mem hf0
     obtain⟨z,_,hz⟩:=hm2 i f0 hi
     exact⟨z,hz⟩)
    obtain⟨x',hx'⟩:=hf y
    refine⟨x',?_⟩
    show p.rc _ cs (f x')
    rw [hx']
    simpa using hy
  ·cases D⟩
def LA(h:xJ enc P W t r)(hag:r.agg=false){ah:DataW h1}(hv:DataW.Trod enc P W 0 (fun _=>true) true t v ah ps)(hc:v.cells= #[v]): ∃y,(Z r y).p (Ie W) v:=by
 obtain⟨fuel,D⟩:=hv
 rw [hc]at D
 obtain⟨y,hy⟩:=h.2 _ _ _ D
 exact⟨y,_,by unfold Rp.val;rw [hag];rfl,hy⟩

def Mv(M:P.underlying t=some (.slice e))(hv:Value.okWide P W .any base t v):v.cells= #[v]:=by
 cases v<;>first|rfl|(simp [Value.okWide,M,Cell.okWide,Cell.ok]at hv)
def KC{W' :World}(h:lq wC W S W' S'):Below W.heap.size W W' :=⟨h.os,h.tape,h.output,h.size,fun k hk=>h.heap k hk (fun h=>h)⟩
def A7(hl:laidOutB P=true){W W' :World}(A:Below W.heap.size W W'){sp:Nat->Bool}: ∀{ts:List TypeId} {vs:List Value} {ds:List (DataW h1)} {ps:List MemPlace},(∀t∈ts,P.readableRec t=true/\t<P.types.size)->
  DataW.TrodAll enc P W 0 (fun _=>true) true ts vs ds ps->(∀p∈ps,p.block<W.heap.size)->(∀p∈ps,sp p.block=true)->DataW.TrodAll enc P W' 0 sp true ts vs ds ps
 |[],[],[],_,_,h,_,_=>h
 |t::ts,v::vs,ah::ds,_,hr,⟨p,q,H,J,e⟩,hlt,hsp=>by
  subst e
  have M:=hr t (oh ..)
  exact⟨p,q,WideElems.Trod_stays hl M.1 M.2 H (fun x D=>A.same (hlt x (FQ _ D))) (fun x D=>hsp x (FQ _ D)),
   A7 hl A (fun t M=>hr t (oO _ M)) J (fun x D=>hlt x (O0 _ D)) (fun x D=>hsp x (O0 _ D)),rfl⟩
def S9{f:Func}{s:ChangeSpec}{apart fresh handsOn again:Bool}{W' :World}{args:Array Value}{ds gs:List (DataW h1)}{before:List MemPlace}{tb:TypeId}(hl:laidOutB P=true)(hr: ∀t∈f.params.toList,P.readableRec t=true/\t<P.types.size)(hvs:s.vars=[])(hres:f.resultTypes= #[tb])(htb:P.underlying tb=some .bool)(hW:DataW.Whole enc P f.params.toList s.vars apart W args.toList ds gs before)(hs:s.fn h1 (ds++gs)={results:=[.lit (.bool true)],args:=ds})(A:Below W.heap.size W W'):
  s.post enc P f apart fresh handsOn again W args (.bool true) W' :=by
 have hW0:=hW
 have hlt:=hW.lt
 obtain⟨pa,pv,hA,hV,rfl,hz,hn⟩:=hW
 rw [hvs]at hV
 have hpv:pv=[]:=by
  cases gs with
  |nil=>exact hV
  |cons g gs=>exact hV.elim
 subst hpv
 have hlt' : ∀p∈pa,p.block<W.heap.size:=fun p hp=>hlt p (by simpa using hp)
 have hargs: ∀sp:Nat->Bool,(∀p∈pa,sp p.block=true)->DataW.TrodAll enc P W' 0 sp true f.params.toList args.toList ds pa:=fun sp hsp=>A7 hl A hr hA hlt' hsp
 have hresT: ∀(b:Nat) (sp:Nat->Bool) (hd:Bool),DataW.TrodAll enc P W' b sp hd f.resultTypes.toList ((Value.bool true).resultList f.resultTypes.size) [.lit (.bool true)] []:=fun b sp hd=>by
  rw [hres]
  exact⟨[],[],⟨1,by simp [DataW.trod,htb,Value.cells]⟩,rfl,rfl⟩
 have hvT: ∀sp:Nat->Bool,DataW.TrodVars enc P W' sp s.vars (s.fn h1 (ds++gs)).vars []:=fun sp=>by
  rw [hvs,hs];rfl
 have hargs' : ∀sp:Nat->Bool,(∀p∈pa,sp p.block=true)->DataW.TrodAll enc P W' 0 sp true f.params.toList args.toList (s.fn h1 (ds++gs)).args pa:=fun sp hsp=>by rw [hs];exact hargs sp hsp
 have hres' : ∀(b:Nat) (sp:Nat->Bool) (hd:Bool),DataW.TrodAll enc P W' b sp hd f.resultTypes.toList ((Value.bool true).resultList f.resultTypes.size) (s.fn h1 (ds++gs)).results []:=fun b sp hd=>by rw [hs];exact hresT b sp hd
 have hold: ∀p∈pa,(fun b=>decide (b<W.heap.size)) p.block=true:=fun p hp=>by simpa using hlt' p hp
 refine⟨ds,gs,pa++[],[],pa,[],hW0,hres' _ _ _,hargs' _ hold,hvT _,World.keptBut_mono (fun p hp=>⟨hp,?_⟩) (A.frame _),fun _=>?_⟩
 ·right;simpa using hp
 ·refine⟨?_,_,_,([]++pa)++[],⟨[]++pa,[],trodAll_append (hargs' _ (fun _ _=>rfl)) (hres' _ _ _),hvT _,rfl,?_,?_⟩,?_⟩
  ·intro j t r H J
   rw [hres]at H J
   cases j with
   |zero=>
    simp [Value.resultList]at H J
    subst H J
    simp [Value.okWide,htb,Cell.okWide,Cell.ok]
   |succ j=>simp at H
  ·intro b off hp
   have hp' :MemPlace.cell b off∈pa:=by simpa using hp
   have:=hlt' _ hp'
   rw [A.frozen (p:=⟨b,off,none⟩) this]
   exact hz b off (by simpa using hp')
  ·intro ha
   have:=hn ha
   simpa using this
  ·intro p hp _
   simpa using hp
end

section
def zG{α:Type}(r:Rp α)(ok:α->Prop):Rp α where
 sz:=r.sz
 agg:=r.agg
 rc:=fun S cs x=>r.rc S cs x/\ok x
 mono:=fun h k=>⟨r.mono h k.1,k.2⟩
 len:=fun k=>r.len k.1
 one:=fun k=>r.one k.1
 sc:=r.sc
def Fc(k:IntKind)(n:Int):Prop:=k.min<=n/\n<=k.max
def Fz(s:cX):Prop:=s.length<=maxLen
def UG{α:Type}(ok:α->Prop)(xs:List α):Prop:=xs.length<=maxLen/\ ∀x∈xs,ok x
def UF{α:Type}(_:α):Prop:=True
def F9(h:P.underlying t=some (.int k))(hc:P.cellsOf t=1):xJ enc P W t (zG (rI k) (Fc k)):=⟨hc,fun fuel cs x D=>by
 cases fuel with
 |zero=>simp [DataW.trod]at D
 |succ n=>
  unfold DataW.trod at D
  rw [h]at D
  split at D
  all_goals try (injections;done)
  ·rename_i k1 k2 m heq
   injection heq with e
   injection e with e
   subst e
   split at D
   ·rename_i J
    obtain⟨rfl,h3⟩:=J
    simp only [Lit.wf,jM,mV]at h3
    exact⟨m,rfl,h3⟩
   ·cases D⟩
def Sx(h:P.underlying t=some .string)(hc:P.cellsOf t=1):xJ enc P W t (zG rS Fz):=⟨hc,fun fuel cs x D=>by
 cases fuel with
 |zero=>simp [DataW.trod]at D
 |succ n=>
  unfold DataW.trod at D
  rw [h]at D
  split at D
  all_goals try (injections;done)
  ·rename_i s heq
   split at D
   ·rename_i J;exact⟨s.data.toList,rfl,(show s.data.toList.length<=maxLen from(show s.size=s.data.toList.length from rfl)▸J)⟩
   ·cases D⟩
def QY(h:P.underlying t=some .bool)(hc:P.cellsOf t=1):xJ enc P W t (zG rB UF):=
 ⟨hc,fun fuel cs x D=>by obtain⟨y,hy⟩:=(Sy (enc:=enc) (W:=W) h hc).2 fuel cs x D;exact⟨y,hy,trivial⟩⟩
def FL{α:Type}(r' r:Rp α)(ok:α->Prop):Prop:=r'.sz=r.sz/\r'.agg=r.agg/\ ∀S cs x,r'.rc S cs x->r.rc S cs x/\ok x
def kS:FL (zG r ok) r ok:=⟨rfl,rfl,fun _ _ _ h=>h⟩
def Pr{α:Type}{r' r:Rp α}{ok:α->Prop}(h:FL r' r ok){S:SH}: ∀{xs:List α} {cs:List Value},ul r' S cs xs->ul r S cs xs/\ ∀x∈xs,ok x
 |[],_,k=>⟨k,fun x D=>by cases D⟩
 |x::xs,_,⟨a,b,e,H,J⟩=>by
  obtain⟨g1,g2⟩:=h.2.2 _ _ _ H
  obtain⟨g3,g4⟩:=Pr h J
  exact⟨⟨a,b,e,g1,g3⟩,fun y hy=>by
   rcases gn.1 hy with rfl|hy
   ·exact g2
   ·exact g4 y hy⟩
def xc(h:FL r' r ok):FL (eM r') (eM r) (UG ok):=⟨rfl,rfl,fun S cs xs ⟨a,cap,e,H,J,h3⟩=>by
 rcases h3 with h3|⟨b,off,c,E,fr,e1,e2,e3⟩
 ·exact⟨⟨a,cap,e,H,J,.inl h3⟩,by omega,fun x D=>by rw [h3]at D;cases D⟩
 ·rw [h.1]at e3
  obtain⟨g1,g2⟩:=Pr h e3
  exact⟨⟨a,cap,e,H,J,.inr ⟨b,off,c,E,fr,e1,e2,g1⟩⟩,by omega,g2⟩⟩
def fC{p' p:Rp α}{q' :Rp β}{f:α->Prop}{g:β->Prop}(h:FL p' p f)(k:FL q' q g):FL (cn p' q') (cn p q) (fun x=>f x.1/\g x.2):=
 ⟨by show p'.sz+q'.sz=p.sz+q.sz;rw [h.1,k.1],rfl,fun S cs x ⟨a,b,e,H,J⟩=>⟨⟨a,b,e,(h.2.2 _ _ _ H).1,(k.2.2 _ _ _ J).1⟩,(h.2.2 _ _ _ H).2,(k.2.2 _ _ _ J).2⟩⟩
def pT{p' p:Rp α}{f:β->α}(h:FL p' p ok):FL (kg p' f) (kg p f) (fun x=>ok (f x)):=
 ⟨h.1,rfl,fun S cs x k=>h.2.2 _ _ _ k⟩
def WF(h:xJ enc P W t r')(hr:FL r' r ok)(hag:r.agg=false){ah:DataW h1}(hv:DataW.Trod enc P W 0 (fun _=>true) true t v ah ps)(hc:v.cells= #[v]): ∃y,(Z r y).p (Ie W) v/\ok y:=by
 obtain⟨y,cs,e,hy⟩:=LA h (by rw [hr.2.1];exact hag) hv hc
 obtain⟨g1,g2⟩:=hr.2.2 _ _ _ hy
 exact⟨y,⟨cs,by rw [e];unfold Rp.val;rw [hr.2.1],g1⟩,g2⟩
def WG(h:xJ enc P W t r')(hr:FL r' r ok)(hag:r.agg=true){ah:DataW h1}(hv:DataW.Trod enc P W 0 (fun _=>true) true t v ah ps)(hc:v= .agg v.cells): ∃y,(Z r y).p (Ie W) v/\ok y:=by
 obtain⟨fuel,D⟩:=hv
 obtain⟨y,hy⟩:=h.2 _ _ _ D
 obtain⟨g1,g2⟩:=hr.2.2 _ _ _ hy
 exact⟨y,⟨_,by unfold Rp.val;rw [hag,cx rfl];exact hc,g1⟩,g2⟩
def KA{l:Array Field}(M:P.underlying t=some (.struct l))(hv:Value.okWide P W .any base t v):v= .agg v.cells:=by
 unfold Value.okWide at hv
 rw [M]at hv
 obtain⟨cs,e,_⟩:=hv
 rw [e]
 rfl
end

variable{Ds:List (DataW Unit)}
section
variable{held:Bool}
def XG(P:Program)(W:World)(held:Bool)(t:TypeId)(hx:DataW Unit)(cells:List Value):Prop:=
 P.cellsOf t=cells.length/\ ∀fuel cs x,DataW.trod (fun _=>()) P W 0 (fun _=>true) held fuel t cs=some x->x.1=hx->cs=cells
def JM{n:Int}(h:P.underlying t=some (.int k))(hc:P.cellsOf t=1):XG P W held t (.lit (.int k n)) [.int k n]:=⟨hc,fun fuel cs x D hD=>by
 obtain⟨m,H,J,_⟩:=DataW.trod_int h D
 subst J
 simp only [DataW.lit.injEq,Lit.int.injEq,true_and]at hD
 rw [H,hD]⟩
def fU{s:List UInt8}(h:P.underlying t=some .string)(hc:P.cellsOf t=1):XG P W held t (.lit (.string s)) [.string ⟨s.toArray⟩]:=⟨hc,fun fuel cs x D hD=>by
 obtain⟨m,H,J,_⟩:=DataW.trod_string h D
 subst J
 simp only [DataW.lit.injEq,Lit.string.injEq]at hD
 subst hD
 rw [H]⟩
def FC(P:Program)(W:World)(held:Bool)(off:Nat)(l:List (TypeId×Nat))(Ds:List (DataW Unit))(cells:List Value):Prop:=
 ∀(n:Nat) (cs:List Value),cs.length=off+cells.length->(∀(i:Nat) f,l[i]? =some f-> ∃x,DataW.trod (fun _=>()) P W 0 (fun _=>true) held n f.1 ((cs.drop f.2).take (P.cellsOf f.1))=some x/\Ds[i]? =some x.1)->cs.drop off=cells
def Hk:FC P W held off [] [] []:=fun n cs hl _=>rE (by simp at hl;omega)
def eI{off' :Nat}{l:List (TypeId×Nat)}{hx:DataW Unit}{c:List Value}(h:XG P W held t hx c)(ho:off' =off+c.length)(k:FC P W held off' l Ds cells):FC P W held off ((t,off)::l) (hx::Ds) (c++cells):=fun n cs hl D=>by
 obtain⟨x,H,J⟩:=D 0 (t,off) rfl
 simp only [IB,A6]at J
 have h3:=h.2 n _ x H J.symm
 have h4:=k n cs (by rw [hl,ho,pg];omega) fun i f hf=>by simpa using D (i+1) f (by simpa using hf)
 have e:cs.drop off=(cs.drop off).take (P.cellsOf t)++cs.drop off' :=by
  rw [ho,<-h.1,<-xR,uN]
 rw [e,h4]
 exact congrArg (· ++cells) h3
def BD{l:List (TypeId×Nat)}(M:(P.underlying t).map (fun ah=>match ah with| .struct l=>(true,l.toList.map fun f=>(f.type,f.offset))|_=>(false,[]))=some (true,l))(hc:P.cellsOf t=cells.length)(hf:FC P W held 0 l Ds cells):XG P W held t (.agg Ds) cells:=⟨hc,fun fuel cs x D hD=>by
 obtain⟨fs,H,J⟩: ∃fs,P.underlying t=some (.struct fs)/\fs.toList.map (fun f=>(f.type,f.offset))=l:=by
  cases hu:P.underlying t with
  |none=>rw [hu]at M;cases M
  |some ah=>
   rw [hu]at M
   cases ah<;>simp at M
   exact⟨_,rfl,M⟩
 obtain⟨xs,n,rfl,h3,h4,h5,h6⟩:=DataW.trod_struct H D
 rw [h3]at hD
 simp only [DataW.agg.injEq]at hD
 have:=hf n cs (by rw [h4,hc];omega) fun i f hi=>by
  rw [<-J,Iw]at hi
  obtain⟨f0,hf0,rfl⟩:=O5.1 hi
  have h7:=h6 i f0 (by simpa using hf0)
  have hlt:i<xs.length:=by
   have:=(kN.1 hf0).1
   rw [h5];simpa using this
  rw [lr hlt]at h7
  exact⟨xs[i],h7,by rw [<-hD];simp [hlt]⟩
 rwa [sF]at this⟩
def Ph{m:Nat}(M:P.underlying t=some (.array m e))(hc:P.cellsOf t=cells.length)(hf:FC P W held 0 ((List.range m).map fun i=>(e,i*P.cellsOf e)) Ds cells):XG P W held t (.agg Ds) cells:=⟨hc,fun fuel cs x D hD=>by
 obtain⟨xs,n,rfl,h3,h4,h5,h6⟩:=DataW.trod_array M D
 rw [h3]at hD
 simp only [DataW.agg.injEq]at hD
 have:=hf n cs (by rw [h4,hc];omega) fun i f hi=>by
  rw [Iw]at hi
  obtain⟨j,hj,rfl⟩:=O5.1 hi
  obtain⟨hlt,hj2⟩:=kN.1 hj
  simp at hlt hj2
  subst hj2
  have h7:=h6 i hlt
  have hlt' :i<xs.length:=by rw [h5];exact hlt
  rw [lr hlt']at h7
  exact⟨xs[i],h7,by rw [<-hD];simp [hlt']⟩
 rwa [sF]at this⟩
def LU: ∀{L:List (String×DataW Unit)} {ps:List MemPlace},DataW.LaidVars P W L ps-> ∀n ah,(n,ah)∈L-> ∃g t cs fuel p,P.globalNamed n=some g/\(P.globals[g]?).map (·.type)=some t/\W.var? P n=some cs/\DataW.trod (fun _=>()) P W 0 (fun _=>true) false fuel t cs.toList=some (ah,p)
 |(_,_)::_,_,⟨g,t,cs,fuel,p,_,H,J,h3,h4,_,_⟩,_,_,.head _=>⟨g,t,cs,fuel,p,H,J,h3,h4⟩
 |(_,_)::_,_,⟨_,_,_,_,_,_,_,_,_,_,h,_⟩,n,ah,.tail _ hm=>LU h n ah hm
def C6{L:List (String×DataW Unit)}(h:laidMet P L W){n:String}{ah:DataW Unit}(hm:(n,ah)∈L){g:Nat}(V:P.globalNamed n=some g)(M:(P.globals[g]?).map (·.type)=some t)(hc:XG P W false t ah cells):
  ∃c T fr,W.heap[g]? =some (.cells c T fr)/\c.toList.take cells.length=cells:=by
 obtain⟨ps,hL,_,_⟩:=h
 obtain⟨g',t',cs,fuel,p,H,J,h3,h4⟩:=LU hL n ah hm
 obtain rfl:=rC (V.symm.trans H)
 obtain rfl:=rC (M.symm.trans J)
 have h5:=hc.2 fuel _ _ h4 rfl
 unfold World.var? at h3
 rw [V]at h3
 simp only [bI]at h3
 split at h3
 ·rename_i c T fr A
  cases h3
  exact⟨_,_,_,A,by rw [h5,A3]⟩
 ·cases h3
end

def LE{α:Type}{r:Rp α}(hfree: ∀{S S' :SH} {cs:List Value} {x:α},r.rc S cs x->r.rc S' cs x){S S' :SH}: ∀{xs:List α} {cs:List Value},ul r S cs xs->ul r S' cs xs
 |[],_,h=>h
 |_::_,_,h=>by
  obtain⟨ds,es,H,J,h3⟩:=h
  exact⟨ds,es,H,hfree J,LE hfree h3⟩
def ab4{l:Option Nat}(h:AY mm r T l cap xs w S)(hs:mU w S): ∃S1,su S S1/\mU w S1/\(Z (eM r) xs).p S1 (Y l cap xs.length):=by
 cases mm with
 |true=>exact⟨S,SH.le_refl _,hs,nc h⟩
 |false=>
  obtain⟨cells,H,J,h3⟩:=h
  cases l with
  |none=>exact⟨S,SH.le_refl _,hs,nc (T:=T) ⟨cells,H,J,fun b A=>(by cases A)⟩⟩
  |some b=>
   obtain⟨cur,g1,g2,g3,g4,g5⟩:=H
   have hoo:HW (.cells cells.toArray T (0,0)) (.cells cur T (0,0)):=by
    refine⟨cur.toList.drop (xs.length*r.sz),?_⟩
    congr 1
    apply Array.ext'
    rw [<-g5,uN]
   have hn:S b=none:=h3 b rfl
   have hle:su S (S.set b (.cells cells.toArray T (0,0))):=AK fun q hq=>(by rw [hn]at hq;cases hq)
   have hsat:mU w (S.set b (.cells cells.toArray T (0,0))):=hs.set g1 hoo fun q hq=>by rw [hn]at hq;cases hq
   refine⟨_,hle,hsat,nc (T:=T) ⟨cells,⟨cur,g1,g2,g3,g4,g5⟩,tZ hle J,fun b' hb' =>?_⟩⟩
   have hb2:b=b' :=rC hb'
   subst hb2
   exact pR _ _ _
section
variable{ty:TypeId}
end

section
variable{ty:TypeId}
def hH(hag:r.agg=true)(hr: ∀S,r.rc S [v] y)(h:bk N G x (tV (.agg #[v]))):bk N G x (Z r y):=fun S a hf=>⟨[v],by rw [Rp.val,cx hag];exact h S a hf,hr S⟩
end

section
variable{N:Nat}{w0:World}{S0:SH}{fn:Func}{ι:Type}{t:ι->Ty}{O2:ι->List OE}
end

section
variable{ty:TypeId}
end
section
variable{ty:TypeId}
end

def I{α:Sort _}{a:α}:a=a:=rfl
def Q:True:=trivial
abbrev bf(x:Int):Ty:=Z (rI .i64) x
abbrev iD(x:Bool):Ty:=Z rB x
abbrev iG{α:Type}(l:List α):Ty:=Z (rI .i64) (l.length:Int)
abbrev Zw:Rp (List Int):=eM (rI .i64)
abbrev qn(l:List Int):Ty:=Z (eM (rI .i64)) l
abbrev gb{α:Type}(r:Rp α)(l:List α):Ty:=Z (eM r) l
abbrev sy{α:Type}(l:Option Nat)(c:Nat)(xs:List α):Ty:=tV (Y l c xs.length)
def a8: ∀{G' G:mM},G'.map (fun p=>look G p.1)=G'.map (fun p=>some p.2)->Q3 G' G
 |[],_,_=>trivial
 |(_,_)::_,_,h=>⟨(Cr h).1,a8 (Cr h).2⟩

section
variable{ty:TypeId}
def fR{x:Nat}{t:Ty}(h:look G x=some t):cH E O G ⟨dst,.move (.tmp x),ty,pos,after,g⟩ t:=bB (M h)
def Cm{x:Nat}{t:Ty}(h:look G x=some t):cH E O G ⟨dst,.assign (.tmp x),ty,pos,after,g⟩ t:=cg (M h)
def zai{n:Int}:cH E O G ⟨dst,.assign (.const (.int k n)),ty,pos,after,g⟩ (Z (rI k) n):=cg hI
def zab{b:Bool}:cH E O G ⟨dst,.assign (.const (.bool b)),ty,pos,after,g⟩ (Z rB b):=cg hB
def nM{x:α}{p:Nat}(ti:TI E.P U sz bytes agg z)(hp:look G p=some (bo r x))(hs:(r.sz,r.agg)=(sz,agg)):
  cH E O G ⟨dst,.load U (.tmp p),ty,pos,after,g⟩ (Z r x):=eS ti (xQ hs).1 (xQ hs).2 (M hp)
def kO{get:α->β}{x:α}{i:Nat}{p:Nat}(hf:bO E.P T i=some (off,sz))(hq:jj r off q get)(hp:look G p=some (bo r x))(h0:(!(Nat.beq sz 0)&&Nat.ble (off+q.sz) r.sz)=true):cH E O G ⟨dst,.fieldAddr T (.tmp p) i,ty,pos,after,g⟩ (bo q (get x)):=
 gz hf (by cases h:Nat.beq sz 0<;>simp [h]at h0 ⊢) hq (by revert h0;cases Nat.ble (off+q.sz) r.sz<;>simp) (M hp)
def zln{x:Nat}(hu:E.P.underlying t=some (.slice e))(D:look G x=some (Z (eM r) xs)):
  cH E O G ⟨dst,.call ⟨.builtin .len,#[.tmp x],#[t]⟩,ty,pos,after,g⟩ (Z (rI .i64) (xs.length:Int)):=fO hu (M D)
def w9{x:Nat}{i:Nat}{t:Ty}(hi:ts[i]? =some t)(D:look G x=some (tT ts)):cH E O G ⟨dst,.extract (.tmp x) i,ty,pos,after,g⟩ t:=GO hi (M D)
def zbx{v:α}{x:Nat}(D:look G x=some (Z r v)):cH E O G ⟨dst,.box T (.tmp x),ty,pos,after,g⟩ (bo r v):=NQ (M D)
def zpa{c x:Nat}{b q:Bool}(hc:look G c=some (Z rB b))(D:look G x=some (qj b (Z rB q))):cH E O G ⟨dst,.pick (.tmp c) (.tmp x) (.const (.bool false)),ty,pos,after,g⟩ (Z rB (b&&q)):=jr (M hc) (fun A=>bE D A)
def zpo{c x:Nat}{b q:Bool}(hc:look G c=some (Z rB b))(D:look G x=some (qj (!b) (Z rB q))):cH E O G ⟨dst,.pick (.tmp c) (.const (.bool true)) (.tmp x),ty,pos,after,g⟩ (Z rB (b||q)):=D3 (M hc) (fun A=>bE D (mD A))
variable{xt yt:TypeId}{x y:Nat}{m n:Int}
def zlt(D:look G x=some (Z (rI k) m))(hy:look G y=some (Z (rI k) n)):cH E O G ⟨dst,.binOp .lss xt (.tmp x) (.tmp y) yt,ty,pos,after,g⟩ (Z rB (decide (m<n))):=eN (M D) (M hy)
def zei{j:IntKind}(D:look G x=some (Z (rI j) m)):cH E O G ⟨dst,.binOp .eql xt (.tmp x) (.const (.int j n)) yt,ty,pos,after,g⟩ (Z rB (m==n)):=m6 (M D) hI
def zni{j:IntKind}(D:look G x=some (Z (rI j) m)):cH E O G ⟨dst,.binOp .neq xt (.tmp x) (.const (.int j n)) yt,ty,pos,after,g⟩ (Z rB (m !=n)):=du (M D) hI
def uR{y:α}{x ix:Nat}{k:IntKind}{i:Int}(hu:E.P.underlying t=some (.slice e))(ti:TI E.P e sz bytes agg z)(hsz:r.sz=sz)(D:look G x=some (Z (eM r) xs))(hi:look G ix=some (Z (rI k) i))(hy:fz xs i=some y):
  cH E O G ⟨dst,.indexAddr t (.tmp x) (.tmp ix),ty,pos,after,g⟩ (bo r y):=d6 hu ti hsz (M D) (M hi) hy
def zin{i:Nat}{x:Nat}{xt yt:TypeId}(hi:i<9223372036854775807)(D:look G x=some (Z (rI .i64) (i:Int))):
  cH E O G ⟨dst,.binOp .add xt (.tmp x) (.const (.int .i64 1)) yt,ty,pos,after,g⟩ (Z (rI .i64) ((i+1:Nat):Int)):=wB hi (M D) hI
def lu{i o:Nat}{p:Nat}(n:Nat)(hf:bO E.P T i=some (off,sz))(h0:Nat.beq sz 0=false)(hp:look G p=some (tV (an b o)))(he:o+off=n):cH E O G ⟨dst,.fieldAddr T (.tmp p) i,ty,pos,after,g⟩ (tV (an b n)):=xf (n:=n) hf h0 (M hp) he
end
section
variable{l:List Oper}
def zo{ty:TypeId}{t:Ty}(hd:Nat.blt ah E.N.n=true)(h:cH E O G ⟨some ah,op,ty,pos,after,none⟩ t)(k:RG E ops aC l O ((ah,t)::G)):
  RG E ops aC (⟨some ah,op,ty,pos,after,none⟩::l) O G:=Jr h hd k
def vR(n ah:Nat)(r:Option Ty):Option Ty:=if Nat.blt ah n then r else none
def dz{r:Option Ty}{t:Ty}(h:vR n ah r=some t):Nat.blt ah n=true/\r=some t:=by
 unfold vR at h;split at h
 case isTrue H=>exact⟨H,h⟩
 case isFalse=>cases h
def aY{x:Nat}{ty:TypeId}{t:Ty}(h:vR E.N.n ah (look G x)=some t)(k:RG E ops aC l O ((ah,t)::G)):
  RG E ops aC (⟨some ah,.move (.tmp x),ty,pos,after,none⟩::l) O G:=Jr (bB (M (dz h).2)) (dz h).1 k
def gx{x:Nat}{ty:TypeId}{t:Ty}(h:vR E.N.n ah (look G x)=some t)(k:RG E ops aC l O ((ah,t)::G)):
  RG E ops aC (⟨some ah,.assign (.tmp x),ty,pos,after,none⟩::l) O G:=Jr (cg (M (dz h).2)) (dz h).1 k
def bP{y:Code}(h:CG E aC y O G):RG E ops (Exit.then (y.wpIn (fw E.r) 0 E.P aC) aC) [] O G:=br (aq h)
def aV{id:Nat}{l:List Oper}{y:Code}(h:RG E l.toArray (Exit.then (y.wpIn (fw E.r) 0 E.P aC) aC) l O G):CG E aC (.seq (.region id l.toArray false) y) O G:=aA (aL h)
def lO{β:Type _}{X aa:Option β}{r:β}{c:Nat}{x y:Code}{b:Bool}(h:(if b=true then X else aa)=some r)(A:look G c=some (Z rB b))(D:X=some r->CG E aC x O G)(hy:aa=some r->CG E aC y O G):CG E aC (.cond (.tmp c) x y) O G:=
 FN (M A) (fun hc=>D (ct h hc)) (fun hc=>hy (cf h hc))
def gp{y:Code}(h:CG E aC y O G):CG E (Exit.then (y.wpIn (fw E.r) 0 E.P aC) aC) .skip O G:=bl (aq h)
def zgt{j gs:Nat}{b:Bool}{ty:TypeId}{t:Ty}(hj:(ops[j]?).bind (·.dst)=some gs)(V:vR E.N.n gs (vR E.N.n ah (look G gs))=some (Z rB b))(h:b=true->cH E O G ⟨some ah,op,ty,pos,after,some (j,true)⟩ t)(k:RG E ops aC l O ((ah,qj b t)::G)):RG E ops aC (⟨some ah,op,ty,pos,after,some (j,true)⟩::l) O G:=WN hj (dz V).1 (dz (dz V).2).2 (dz (dz V).2).1 h k
def zgf{j gs:Nat}{b:Bool}{ty:TypeId}{t:Ty}(hj:(ops[j]?).bind (·.dst)=some gs)(V:vR E.N.n gs (vR E.N.n ah (look G gs))=some (Z rB b))(h:(!b)=true->cH E O G ⟨some ah,op,ty,pos,after,some (j,false)⟩ t)(k:RG E ops aC l O ((ah,qj (!b) t)::G)):RG E ops aC (⟨some ah,op,ty,pos,after,some (j,false)⟩::l) O G:=WO hj (dz V).1 (dz (dz V).2).2 (dz (dz V).2).1 h k
end
def cu{α:Type _}{β:Type _}{x:Option α}{k:α->Option β}{r:β}{P:Prop}(h:x.bind k=some r)(f: ∀y,x=some y->k y=some r->P):P:=by
 obtain⟨y,H,J⟩:=bs h;exact f y H J
variable{u1:Ty}
section
variable{l:List Oper}{i:Nat}{t:Ty}
def KF{a b c:Bool}(h:(a&&b&&c)=true):a=true/\b=true/\c=true:=by revert h;cases a<;>cases b<;>cases c<;>simp
def isn{x:Option α}(h:x.isNone=true):x=none:=by cases x;rfl;cases h
def zd0(h:ts[i]? =some t)(k:cH E O [] o t)(A:(ft i o&&o.guard.isNone)=true:=by exact rfl): ∃(needs:List Nd) (t:Ty),ts[i]? =some t/\uL G ts needs/\(needs.all (q0 l o i))=true/\ft i o=true/\bg E O l.toArray (kG needs) o t:=
 ⟨[],t,h,trivial,rfl,(EG.1 A).1,h2 (isn (EG.1 A).2) k⟩
def qN(a:Nat){u:Ty}(h:ts[i]? =some t)(hu:Dx G ts ⟨a,u,none⟩)(k:cH E O [(a,u)] o t)(A:([(⟨a,u,none⟩:Nd)].all (q0 l o i)&&ft i o&&o.guard.isNone)=true:=by exact rfl): ∃(needs:List Nd) (t:Ty),ts[i]? =some t/\uL G ts needs/\(needs.all (q0 l o i))=true/\ft i o=true/\bg E O l.toArray (kG needs) o t:=
 ⟨[(⟨a,u,none⟩:Nd)],t,h,⟨hu,trivial⟩,(KF A).1,(KF A).2.1,h2 (isn (KF A).2.2) k⟩
def fL(a:Nat)(j:Nat){u:Ty}(h:ts[i]? =some t)(hu:Dx G ts ⟨a,u,(some j)⟩)(k:cH E O [(a,u)] o t)(A:([(⟨a,u,(some j)⟩:Nd)].all (q0 l o i)&&ft i o&&o.guard.isNone)=true:=by exact rfl): ∃(needs:List Nd) (t:Ty),ts[i]? =some t/\uL G ts needs/\(needs.all (q0 l o i))=true/\ft i o=true/\bg E O l.toArray (kG needs) o t:=
 ⟨[(⟨a,u,(some j)⟩:Nd)],t,h,⟨hu,trivial⟩,(KF A).1,(KF A).2.1,h2 (isn (KF A).2.2) k⟩
def oo(a:Nat)(a1:Nat)(j1:Nat){u:Ty}(h:ts[i]? =some t)(hu:Dx G ts ⟨a,u,none⟩)(hu1:Dx G ts ⟨a1,u1,(some j1)⟩)(k:bg E O l.toArray [(a,u),(a1,u1)] o t)(A:([(⟨a,u,none⟩:Nd),⟨a1,u1,(some j1)⟩].all (q0 l o i)&&ft i o)=true:=by exact rfl): ∃(needs:List Nd) (t:Ty),ts[i]? =some t/\uL G ts needs/\(needs.all (q0 l o i))=true/\ft i o=true/\bg E O l.toArray (kG needs) o t:=
 ⟨[(⟨a,u,none⟩:Nd),⟨a1,u1,(some j1)⟩],t,h,⟨hu,hu1,trivial⟩,(EG.1 A).1,(EG.1 A).2,k⟩
def eh(a:Nat)(j:Nat)(a1:Nat)(j1:Nat){u:Ty}(h:ts[i]? =some t)(hu:Dx G ts ⟨a,u,(some j)⟩)(hu1:Dx G ts ⟨a1,u1,(some j1)⟩)(k:cH E O [(a,u),(a1,u1)] o t)(A:([(⟨a,u,(some j)⟩:Nd),⟨a1,u1,(some j1)⟩].all (q0 l o i)&&ft i o&&o.guard.isNone)=true:=by exact rfl): ∃(needs:List Nd) (t:Ty),ts[i]? =some t/\uL G ts needs/\(needs.all (q0 l o i))=true/\ft i o=true/\bg E O l.toArray (kG needs) o t:=
 ⟨[(⟨a,u,(some j)⟩:Nd),⟨a1,u1,(some j1)⟩],t,h,⟨hu,hu1,trivial⟩,(KF A).1,(KF A).2.1,h2 (isn (KF A).2.2) k⟩
def jS(a:Nat)(j:Nat)(a1:Nat)(j1:Nat){u:Ty}(h:ts[i]? =some t)(hu:Dx G ts ⟨a,u,(some j)⟩)(hu1:Dx G ts ⟨a1,u1,(some j1)⟩)(k:bg E O l.toArray [(a,u),(a1,u1)] o t)(A:([(⟨a,u,(some j)⟩:Nd),⟨a1,u1,(some j1)⟩].all (q0 l o i)&&ft i o)=true:=by exact rfl): ∃(needs:List Nd) (t:Ty),ts[i]? =some t/\uL G ts needs/\(needs.all (q0 l o i))=true/\ft i o=true/\bg E O l.toArray (kG needs) o t:=
 ⟨[(⟨a,u,(some j)⟩:Nd),⟨a1,u1,(some j1)⟩],t,h,⟨hu,hu1,trivial⟩,(EG.1 A).1,(EG.1 A).2,k⟩
def pi(a:Nat)(j:Nat)(a1:Nat)(j1:Nat)(a2:Nat)(j2:Nat){u:Ty}{u2:Ty}(h:ts[i]? =some t)(hu:Dx G ts ⟨a,u,(some j)⟩)(hu1:Dx G ts ⟨a1,u1,(some j1)⟩)(hu2:Dx G ts ⟨a2,u2,(some j2)⟩)(k:bg E O l.toArray [(a,u),(a1,u1),(a2,u2)] o t)(A:([(⟨a,u,(some j)⟩:Nd),⟨a1,u1,(some j1)⟩,⟨a2,u2,(some j2)⟩].all (q0 l o i)&&ft i o)=true:=by exact rfl): ∃(needs:List Nd) (t:Ty),ts[i]? =some t/\uL G ts needs/\(needs.all (q0 l o i))=true/\ft i o=true/\bg E O l.toArray (kG needs) o t:=
 ⟨[(⟨a,u,(some j)⟩:Nd),⟨a1,u1,(some j1)⟩,⟨a2,u2,(some j2)⟩],t,h,⟨hu,hu1,hu2,trivial⟩,(EG.1 A).1,(EG.1 A).2,k⟩
end
end Go.Proofs.YthbdkceckjihgaaGreatDoor

