/- du of this claim: W33, W34, W35, W36, W37, W38, W39, W40, W48, W50, W51, W41, W42, W43, W21, W27, W45, W46, W47, W52, W53, W56, W57. -/
import Derived.Test.YthbdkceckjihgaaGreatDoorBbV2
import Derived.Lib.Bytealg
import Derived.Maps.Range
import Derived.Laws.IdiomRangeMap
import Derived.Test.YthbdkceckjihgaaGreatDoorBbV1
import Derived.Laws.BytesString
import Derived.Below
import Derived.ProofKit
import Derived.OpenShut
import Derived.LaidMore
import Derived.Laws.Externs
set_option linter.all false
namespace Go.Proofs.YthbdkceckjihgaaGreatDoor
open Go

def zk(N:Nat):List Nat->List Oper->Bool
 |_,[]=>true
 |seen,o::rest=>match o.dst with
  |some aE=>Nat.blt aE N&& !(seen.any (Nat.beq aE))&&zk N (aE::seen) rest
  |none=>zk N seen rest
variable{N:Fr}{β:Type}{aE:Nat}{j:Int}{o:Oper}{p:Operand}{q:Rp β}
def EI{N:Nat}(l:List Oper): ∀(seen:List Nat),zk N seen l=true->
  (∀o:Oper,o∈l-> ∀aE,o.dst=some aE->aE<N/\aE∉seen)/\ ∀(i j:Nat) (o p:Oper) (aE:Nat),l[i]? =some o->l[j]? =some p->o.dst=some aE->p.dst=some aE->i=j:=by
 induction l with
 |nil=>exact fun _ _=>⟨fun _ h=>(by cases h),fun _ _ _ _ _ h=>(by simp at h)⟩
 |cons o l ih=>
  intro seen h
  unfold zk at h
  cases hd:o.dst with
  |none=>
   rw [hd]at h
   obtain⟨V,Z⟩:=ih seen h
   refine⟨fun q hq aE hqd=>?_,fun i j p q aE hi hj hp hq=>?_⟩
   ·rcases gw.1 hq with rfl|hq
    ·rw [hd]at hqd;cases hqd
    ·exact V q hq aE hqd
   ·cases i with
    |zero=>simp at hi;subst hi;rw [hd]at hp;cases hp
    |succ i=>
     cases j with
     |zero=>simp at hj;subst hj;rw [hd]at hq;cases hq
     |succ j=>rw [Z i j p q aE (by simpa using hi) (by simpa using hj) hp hq]
  |some d0=>
   rw [hd]at h
   simp only [jR,tK,AI]at h
   obtain⟨⟨g1,g2⟩,g3⟩:=h
   obtain⟨V,Z⟩:=ih (d0::seen) g3
   have hns:d0∉seen:=fun hm=>by
    have:seen.any (Nat.beq d0)=true:=EZ.2 ⟨d0,hm,Nat.beq_refl d0⟩
    rw [this]at g2;cases g2
   refine⟨fun q hq aE hqd=>?_,fun i j p q aE hi hj hp hq=>?_⟩
   ·rcases gw.1 hq with rfl|hq
    ·rw [hd]at hqd;cases hqd;exact⟨g1,hns⟩
    ·obtain⟨k1,k2⟩:=V q hq aE hqd
     exact⟨k1,fun hm=>k2 (oD _ hm)⟩
   ·cases i with
    |zero=>
     cases j with
     |zero=>rfl
     |succ j=>
      simp at hi;subst hi
      rw [hd]at hp;cases hp
      exact absurd (oa ..) (V q (uk (by simpa using hj)) d0 hq).2
    |succ i=>
     cases j with
     |zero=>
      simp at hj;subst hj
      rw [hd]at hq;cases hq
      exact absurd (oa ..) (V p (uk (by simpa using hi)) d0 hp).2
     |succ j=>rw [Z i j p q aE (by simpa using hi) (by simpa using hj) hp hq]
def Lw:List Oper->List Ty->mK->mK
 |o::l,t::ts,G=>match o.dst with
  |some aE=>(aE,t)::Lw l ts G
  |none=>Lw l ts G
 |_,_,G=>G
variable{G:mK}{e:TypeId}{k:IntKind}{t:TypeId}{ts:List Ty}{u:Value}
def IZ(l:List Oper): ∀(ts:List Ty) (k:Nat) (t:Ty),ts.length=l.length->look (Lw l ts G) k=some t->
  (∃(j:Nat) (o:Oper),l[j]? =some o/\o.dst=some k/\ts[j]? =some t)\/(look G k=some t/\ ∀o:Oper,o∈l->o.dst≠some k):=by
 induction l with
 |nil=>
  intro ts k t hl h
  have:ts=[]:=za (by simpa using hl)
  subst this
  exact .inr ⟨h,fun _ h=>(by cases h)⟩
 |cons o l ih=>
  intro ts k t hl h
  cases ts with
  |nil=>simp at hl
  |cons u ts=>
   unfold Lw at h
   have hl' :ts.length=l.length:=by simpa using hl
   have lift:((∃(j:Nat) (p:Oper),l[j]? =some p/\p.dst=some k/\ts[j]? =some t)\/(look G k=some t/\ ∀p:Oper,p∈l->p.dst≠some k))->o.dst≠some k->
     (∃(j:Nat) (p:Oper),(o::l)[j]? =some p/\p.dst=some k/\(u::ts)[j]? =some t)\/(look G k=some t/\ ∀p:Oper,p∈o::l->p.dst≠some k):=by
    rintro(⟨j,p,V,Z,h3⟩|⟨V,Z⟩) hne
    ·exact .inl ⟨j+1,p,by simpa using V,Z,by simpa using h3⟩
    ·exact .inr ⟨V,fun p hp=>(gw.1 hp).elim (fun e=>by subst e;exact hne) (Z p)⟩
   cases hd:o.dst with
   |none=>
    rw [hd]at h
    exact lift (ih ts k t hl' h) (by rw [hd];exact fun e=>by cases e)
   |some aE=>
    rw [hd]at h
    simp only at h
    unfold look at h
    by_cases Y:Nat.beq aE k=true
    ·rw [Y]at h
     have:=qL Y
     subst this
     have e:u=t:=by simpa using h
     subst e
     exact .inl ⟨0,o,rfl,hd,rfl⟩
    ·rw [Dv]at Y
     rw [Y]at h
     refine lift (ih ts k t hl' h) ?_
     rw [hd]
     intro e
     have:aE=k:=ro e
     subst this
     simp at Y
abbrev TS:=List Nat×(List OI->Ty)
def TS.at(p:TS)(σ:Nat->OI):Ty:=p.2 (p.1.map σ)
def tc(t:Ty):TS:=([],fun _=>t)
def R7(Ss:List ((Nat->OI)->List OE))(c:Nat)(σ:Nat->OI):List OE:=match Ss[c]? with|some f=>f σ|none=>[]
structure NS where
 slot:Nat
 ty:(Nat->OI)->Ty
 src:Option Nat
def NS.at(n:NS)(σ:Nat->OI):Nd:=⟨n.slot,n.ty σ,n.src⟩
def WN(G:mK)(ts:List TS)(n:NS):Prop:=
 match n.src with
 |some j=> ∀σ,(ts[j]?).map (fun p=>p.at σ)=some (n.ty σ)
 |none=> ∀σ,look G n.slot=some (n.ty σ)
def yS(G:mK)(ts:List TS):List NS->Prop
 |[]=>True
 |n::l=>WN G ts n/\yS G ts l
variable{n:Nat}
def yS.mem{ts:List TS}: ∀{l:List NS},yS G ts l-> ∀n∈l,WN G ts n
 |_::_,⟨h,_⟩,_,.head _=>h
 |_::_,⟨_,h⟩,_,.tail _ hm=>yS.mem h _ hm
def yJ(l:List NS)(σ:Nat->OI):mK:=kQ (l.map (·.at σ))
def Ux(ts:List TS)(σ:Nat->OI):List Ty:=ts.map fun p=>p.at σ
def RD(L:List Oper)(es:List Bool)(i:Nat)(p:TS):Bool:=p.1.all fun k=>(es[k]?).getD false&&(Nat.beq k i||oP L L.length i k)
def XU(L:List Oper)(es:List Bool)(i lo hi:Nat):Bool:=
 Nat.ble lo (il es es.length)&&(List.range es.length).all fun k=> !((es[k]?).getD false)||((Nat.ble lo (il es k)||oP L L.length i k)&&(Nat.blt (il es k) hi||oP L L.length k i))
def DS(E:En)(G:mK)(L:List Oper)(ts:List TS)(Ss:List ((Nat->OI)->List OE))(es0:List Bool):Nat->Nat->List Oper->List Bool->Prop
 |_,_,[],_=>True
 |i,c,o::rest,false::es=>(∃(needs:List NS) (t:TS) (lo hi:Nat),ts[i]? =some t/\yS G ts needs/\(needs.all fun n=>qP L o i (n.at fun _=>oF))=true/\fx i o=true/\RD L es0 i t=true/\XU L es0 i lo hi=true/\o.dst.isSome=true/\
   ∀c σ,lo<=c->c<=hi->bo E (R7 Ss c σ) L.toArray (yJ needs σ) o (t.at σ))/\DS E G L ts Ss es0 (i+1) c rest es
 |i,c,o::rest,true::es=>(∃(needs:List NS) (t:TS),ts[i]? =some t/\yS G ts needs/\(needs.all fun n=>qP L o i (n.at fun _=>oF))=true/\fx i o=true/\RD L es0 i t=true/\
   ∀σ,ji E L.toArray (R7 Ss c σ) (yJ needs σ) o (fun x=>R7 Ss (c+1) (upd σ i x)) (fun x=>t.at (upd σ i x)))/\DS E G L ts Ss es0 (i+1) (c+1) rest es
 |_,_,_::_,[]=>False
variable{E:En}{L:List Oper}{Ss:List ((Nat->OI)->List OE)}{c:Code}{es:List Bool}{lo:Int}{α:Type}{r:Rp α}{x:Operand}{σ:Nat->OI}
def DS.get{ts:List TS}{es0:List Bool}: ∀(r:List Oper) (es:List Bool) (k c:Nat),DS E G L ts Ss es0 k c r es-> ∀(j:Nat) (o:Oper),r[j]? =some o->
    ∃e,es[j]? =some e/\ ∃(needs:List NS) (t:TS),ts[k+j]? =some t/\yS G ts needs/\(needs.all fun n=>qP L o (k+j) (n.at fun _=>oF))=true/\fx (k+j) o=true/\RD L es0 (k+j) t=true/\
      (match e with
       |false=>o.dst.isSome=true/\ ∃lo hi,XU L es0 (k+j) lo hi=true/\ ∀c σ,lo<=c->c<=hi->bo E (R7 Ss c σ) L.toArray (yJ needs σ) o (t.at σ)
       |true=> ∀σ,ji E L.toArray (R7 Ss (c+il es j) σ) (yJ needs σ) o (fun x=>R7 Ss (c+il es j+1) (upd σ (k+j) x)) (fun x=>t.at (upd σ (k+j) x))):=by
  intro r
  induction r with
  |nil=>intro es k c _ j o h;simp at h
  |cons p r ih=>
    intro es k c h j o ho
    cases es with
    |nil=>exact h.elim
    |cons e es=>
      cases e with
      |false=>
        obtain⟨⟨needs,t,lo,hi,g1,g2,g3,g4,g5,g6,g7,g8⟩,Z⟩:=h
        cases j with
        |zero=>
          simp at ho;subst ho
          exact⟨false,rfl,needs,t,g1,g2,g3,g4,g5,g7,lo,hi,g6,g8⟩
        |succ j=>
          obtain⟨e',g1,g2⟩:=ih es (k+1) _ Z j o (by simpa using ho)
          refine⟨e',by simpa using g1,?_⟩
          rw [show k+1+j=k+(j+1)from by omega]at g2
          have e1:c+il (false::es) (j+1)=c+il es j:=by simp [il]
          rw [e1];exact g2
      |true=>
        obtain⟨V,Z⟩:=h
        cases j with
        |zero=>
          simp at ho;subst ho
          exact⟨true,rfl,V⟩
        |succ j=>
          obtain⟨e',g1,g2⟩:=ih es (k+1) _ Z j o (by simpa using ho)
          refine⟨e',by simpa using g1,?_⟩
          rw [show k+1+j=k+(j+1)from by omega]at g2
          have e1:c+il (true::es) (j+1)=c+1+il es j:=by simp [il];omega
          rw [e1];exact g2
structure XG(E:En)(G:mK)(l:List Oper)(ts:List TS)(Ss:List ((Nat->OI)->List OE))(es:List Bool)(done:Array Bool)(a:Act)(w:World)(S:SH)(σ:Nat->OI)(c:Nat):Prop where
 ext:lr E.B E.w0 E.S0 w S
 sat:mT w S
 own:dI E.base E.B w S (R7 Ss c σ)
 size:a.tmps.size=E.N.n
 defers:a.defers=E.N.ds
 dsz:done.size=l.length
 down: ∀j o,l[j]? =some o->done.getD j false=true-> ∀e∈o.after,Region.binds .any e=true->done.getD e.on false=true
 old: ∀k t,look G k=some t->(∀j o,l[j]? =some o->done.getD j false=true->o.dst≠some k)->t.p S (a.tmps.getD k undef)
 new: ∀j o aE p,l[j]? =some o->done.getD j false=true->o.dst=some aE->ts[j]? =some p->(p.at σ).p S (a.tmps.getD aE undef)
 deps: ∀j p,done.getD j false=true->ts[j]? =some p-> ∀k∈p.1,done.getD k false=true
 chain: ∀k,es[k]? =some true->(done.getD k false=true↔il es k<c)
variable{S S' :SH}{a:Act}{b:Nat}{done:Array Bool}{f:FuncId}{κ:Type}{m:List (κ×β)}{v:Value}{w w' :World}
section
variable{ts:List TS}
def XG.need{c:Nat}(h:XG E G L ts Ss es done a w S σ c){i:Nat}(hi:L[i]? =some o)(hun:done.getD i true=false)(hwait: ∀e∈o.after,Region.binds .any e=true->done.getD e.on false=true){needs:List NS}(V:yS G ts needs)(Z:(needs.all fun n=>qP L o i (n.at fun _=>oF))=true):du E.N S a (yJ needs σ):=by
 have hlt:i<done.size:=by rw [h.dsz];exact(ui.1 hi).1
 have hun' :done.getD i false=false:=by
  simp [hlt]at hun ⊢;exact hun
 refine⟨h.size,h.defers,?_⟩
 have key: ∀n∈needs,(n.ty σ).p S (a.tmps.getD n.slot undef):=by
  intro n hn
  have hs:=pG.1 Z n hn
  have ho:=V.mem n hn
  unfold qP NS.at at hs
  unfold WN at ho
  cases hsrc:n.src with
  |some j=>
   rw [hsrc]at hs ho
   simp only [jR]at hs
   obtain⟨hs1,hs2⟩:=hs
   cases hj:L[j]? with
   |none=>rw [hj]at hs1;cases hs1
   |some p=>
    rw [hj]at hs1
    cases hd:p.dst with
    |none=>simp only [hd]at hs1;cases hs1
    |some aE=>
     simp only [hd]at hs1
     have hd' :=qL hs1
     subst hd'
     have hdone:done.getD j false=true:=by
      unfold EF at hs2
      obtain⟨e,he0,Y⟩:=EZ.1 hs2
      have he:e∈o.after:=by simpa using he0
      simp only [jR]at Y
      have:=hwait e he Y.2
      rwa [qL Y.1]at this
     have hm:=ho σ
     cases hf:ts[j]? with
     |none=>rw [hf]at hm;simp at hm
     |some f=>
      rw [hf]at hm
      have e:f.at σ=n.ty σ:=by simpa using hm
      rw [<-e]
      exact h.new j p n.slot f hj hdone hd hf
  |none=>
   rw [hsrc]at hs ho
   refine h.old _ _ (ho σ) fun j p hj hdone hd=>?_
   have:=pG.1 hs p (uk hj)
   simp only [hd,Nat.beq_refl,rn,Bi]at this
   unfold EF at this
   obtain⟨e,he0,Y⟩:=EZ.1 this
   have he:e∈p.after:=by simpa using he0
   simp only [jR]at Y
   have h3:=h.down j p hj hdone e he Y.2
   rw [qL Y.1]at h3
   rw [h3]at hun'
   cases hun'
 clear V Z
 intro k t hk
 unfold yJ at hk
 induction needs with
 |nil=>simp [kQ,look]at hk
 |cons n needs ih=>
  simp only [uG]at hk
  unfold kQ look at hk
  by_cases Y:Nat.beq n.slot k=true
  ·have hb' :Nat.beq (n.at σ).slot k=true:=Y
   rw [hb']at hk
   have:=qL Y
   subst this
   have h9:some (n.at σ).ty=some t:=by simpa using hk
   have e:n.ty σ=t:=ro h9
   rw [<-e]
   exact key n (oa ..)
  ·rw [Dv]at Y
   have hb' :Nat.beq (n.at σ).slot k=false:=Y
   rw [hb']at hk
   exact ih (fun m hm=>key m (oD _ hm)) hk
def XG.step{σ' :Nat->OI}{c c' :Nat}(h:XG E G L ts Ss es done a w S σ c){i:Nat}{p0:TS}{C:Nat->Prop}(hi:L[i]? =some o)(hdN: ∀aE,o.dst=some aE->aE<E.N.n)(hs2: ∀aE,o.dst=some aE-> ∀j p,L[j]? =some p->done.getD j false=true->p.dst=some aE->i=j)(hwait: ∀e∈o.after,Region.binds .any e=true->done.getD e.on false=true)(M:ts[i]? =some p0)(hun:done.getD i true=false)(hdep: ∀k∈p0.1,k=i\/done.getD k false=true)(hext:lr C w S w' S')(hC: ∀b,C b->E.base<=b\/E.B b)(hsat:mT w' S')(hown:dI E.base E.B w' S' (R7 Ss c' σ'))(hσ: ∀k,k≠i->σ' k=σ k)(hv:(p0.at σ').p S' v)(hch: ∀k,es[k]? =some true->((done.setIfInBounds i true).getD k false=true↔il es k<c')):
  XG E G L ts Ss es (done.setIfInBounds i true) (a.put o.dst v) w' S' σ' c' :=by
 have hlt:i<done.size:=by rw [h.dsz];exact(ui.1 hi).1
 have hset: ∀j,(done.setIfInBounds i true).getD j false=true->j=i\/done.getD j false=true:=fun j hj=>by
  by_cases hij:i=j
  ·exact .inl hij.symm
  ·rw [yC false hij]at hj;exact .inr hj
 have hseti:(done.setIfInBounds i true).getD i false=true:=by simp [hlt]
 have hun' :done.getD i false=false:=by simp [hlt]at hun ⊢;exact hun
 have hput: ∀k,(∀aE,o.dst=some aE->aE≠k)->(a.put o.dst v).tmps.getD k undef=a.tmps.getD k undef:=fun k hk=>by
  cases hd:o.dst with
  |none=>rfl
  |some aE=>
   have hda:aE<a.tmps.size:=by rw [h.size];exact hdN aE hd
   rw [wh hda,cr (hk aE hd)]
 refine⟨h.ext.step hext hC,hsat,hown,?_,?_,by simp [h.dsz],fun j p hj hdone e he Y=>?_,fun k u hk hno=>?_,fun j p d' u hj hdone hd' hu=>?_,fun j u hj hu k hk=>?_,hch⟩
 ·cases o.dst with
  |none=>exact h.size
  |some aE=>simp [Act.put,h.size]
 ·cases o.dst with
  |none=>exact h.defers
  |some aE=>exact h.defers
 ·rcases hset j hdone with rfl|hj'
  ·rw [hi]at hj
   have:o=p:=by simpa using hj
   subst this
   exact AF (hwait e he Y)
  ·exact AF (h.down j p hj hj' e he Y)
 ·rw [hput k fun aE hd e=>hno i o hi hseti (by rw [hd,e])]
  exact u.mono hext.keep (h.old k u hk fun j p hj hdone=>hno j p hj (AF hdone))
 ·by_cases hij:j=i
  ·subst hij
   rw [hi]at hj
   have:o=p:=by simpa using hj
   subst this
   have hda:d' <a.tmps.size:=by rw [h.size];exact hdN d' hd'
   rw [hd',wh hda,cz rfl]
   rw [M]at hu
   have:p0=u:=by simpa using hu
   subst this
   exact hv
  ·have hj' :=(hset j hdone).resolve_left hij
   rw [hput d' fun aE hd e=>by subst e;exact hij (hs2 aE hd j p hj hj' hd').symm]
   have e1:u.at σ' =u.at σ:=congrArg u.2 (List.map_congr_left fun k hk=>hσ k fun e=>by
     subst e
     rw [h.deps j u hj' hu k hk]at hun';cases hun')
   rw [e1]
   exact Ty.mono _ hext.keep (h.new j p d' u hj hj' hd' hu)
 ·rcases hset j hj with rfl|hj'
  ·rw [M]at hu
   have:p0=u:=by simpa using hu
   subst this
   rcases hdep k hk with rfl|h'
   ·exact hseti
   ·exact AF h'
  ·exact AF (h.deps j u hj' hu k hk)
end
variable{ah:Exit->Act->World->Prop}
def KN{l t:List Oper}{ts:List TS}(hsl:zk E.N.n [] l=true)(hlen:ts.length=l.length)(hesl:es.length=l.length)(hd:DS E G (l++t) ts Ss es 0 0 l es)(hch:Od (l++t) es=true)(M:A1 (l++t) l.length t.length=true)(hQ: ∀a w S σ,St E (R7 Ss (il es es.length) σ) (Lw l (Ux ts σ) G) a w S->wpListIn (fw E.r) 0 E.P (l++t).toArray ah t a w):
  ∀(fuel:Nat) (done:Array Bool) (a:Act) (w:World) (S:SH) (σ:Nat->OI) (c:Nat),mL done=fuel->(∀j,l.length<=j->done.getD j false=false)->c<=il es es.length->XG E G (l++t) ts Ss es done a w S σ c->wpAnyIn (fw E.r) 0 E.P .any (l++t).toArray ah fuel done a w:=by
 have hL1: ∀i o,i<l.length->(l++t)[i]? =some o->l[i]? =some o:=fun i o hi h=>by rwa [E0 hi]at h
 have hL2: ∀i o,l[i]? =some o->(l++t)[i]? =some o:=fun i o h=>by rw [E0 (ui.1 h).1];exact h
 have htail: ∀m o,l.length<=m->(l++t)[m]? =some o->yo (l++t) m=true/\fx m o=true:=fun m o hm ho=>by
  have hml:m<(l++t).length:=(ui.1 ho).1
  rw [pF]at hml
  unfold A1 at M
  have:=pG.1 M (m-l.length) (by simp;omega)
  rw [show l.length+(m-l.length)=m from by omega,ho]at this
  simp only [jR]at this
  exact⟨this.1,this.2.1⟩
 have hget:=fun i o (hi:l[i]? =some o)=>DS.get l es 0 0 hd i o hi
 have hedge: ∀i o,(l++t)[i]? =some o->fx i o=true:=fun i o hi=>by
  rcases oE i l.length with h|h
  ·obtain⟨_,_,_,_,_,_,_,h,_⟩:=hget i o (hL1 i o h hi)
   simpa using h
  ·exact(htail i o h hi).2
 obtain⟨hs1,hs2⟩:=EI l [] hsl
 have fin: ∀fuel done a w S σ c,mL done=fuel->(∀j,l.length<=j->done.getD j false=false)->c<=il es es.length->XG E G (l++t) ts Ss es done a w S σ c->(∀i,i<l.length->done.getD i false=true)->wpAnyIn (fw E.r) 0 E.P .any (l++t).toArray ah fuel done a w:=by
  intro fuel done a w S σ c hu hfree hcle h hall
  have hcc:c=il es es.length:=by
   rcases oE c (il es es.length)with hlt|hge
   ·obtain⟨i,V,Z,h3⟩:=yx hlt
    have:=(h.chain i Z).1 (hall i (by omega))
    omega
   ·omega
  subst hcc
  refine Bs (n:=l.length) (fun m o hm ho=>(htail m o hm ho).1) hedge t l.length done fuel a w (gc _) (by simp) h.dsz (fun j hj=>⟨fun hjd=>?_,fun hlt=>hall j hlt⟩) hu
   (hQ a w S σ ⟨h.ext,h.sat,h.own,h.size,h.defers,fun j u hj=>?_⟩)
  ·rcases oE j l.length with h' |h'
   ·exact h'
   ·rw [hfree j h']at hjd;cases hjd
  ·rcases IZ l (Ux ts σ) j u (by unfold Ux;rw [Ck];exact hlen) hj with⟨i,o,V,Z,h3⟩|⟨V,Z⟩
   ·unfold Ux at h3
    rw [Io]at h3
    cases hf:ts[i]? with
    |none=>rw [hf]at h3;simp at h3
    |some f=>
     rw [hf]at h3
     have e:f.at σ=u:=by simpa using h3
     rw [<-e]
     exact h.new i o j f (hL2 i o V) (hall i (ui.1 V).1) Z hf
   ·refine h.old j u V fun i o ho hdn=>?_
    rcases oE i l.length with h' |h'
    ·exact Z o (uk (hL1 i o h' ho))
    ·rw [hfree i h']at hdn;cases hdn
 have lower: ∀done a w S σ c i,(∀j,l.length<=j->done.getD j false=false)->XG E G (l++t) ts Ss es done a w S σ c->i∈Region.ready .any (l++t).toArray done->l.length<=i-> ∀j,j<l.length->done.getD j false=true:=by
  intro done a w S σ c i hfree h hi hge j hj
  obtain⟨hun,p,hp,hwait⟩:=vm.1 hi
  have hp' :(l++t)[i]? =some p:=by simpa using hp
  have hcov:=(htail i p hge hp').1
  unfold yo at hcov
  have hre:=pG.1 hcov j (by simp;omega)
  exact hM h.down _ i j (fun q hq e he Y=>by
   have:q=p:=by rw [hp']at hq;simpa using hq.symm
   subst this
   exact hwait e he Y) hre
 have hchain: ∀i j,j<i->es[i]? =some true->es[j]? =some true->oP (l++t) (l++t).length i j=true:=fun i j hij V Z=>by
  unfold Od at hch
  have hil:i<es.length:=(ui.1 V).1
  have:=pG.1 (pG.1 hch i (by simpa using hil)) j (by simpa using hij)
  rw [V,Z]at this
  simpa using this
 intro fuel
 induction fuel with
 |zero=>
  intro done a w S σ c hu hfree hcle h
  exact fin 0 done a w S σ c hu hfree hcle h fun i hi=>v6 hu (by rw [h.dsz,pF];omega)
 |succ fuel ih=>
  intro done a w S σ c hu hfree hcle h
  by_cases hall: ∀i,i<l.length->done.getD i false=true
  ·exact fin _ done a w S σ c hu hfree hcle h hall
  have hready0: ∀m i,i<m->i<l.length->Region.ready .any (l++t).toArray done=[]->done.getD i false=true:=by
   intro m
   induction m with
   |zero=>intro i h;omega
   |succ m ihm=>
    intro i him hil hr
    have his:i<done.size:=by rw [h.dsz,pF];omega
    by_cases hdn:done.getD i true=true
    ·rw [<-pS his];exact hdn
    ·exfalso
     obtain⟨o,ho⟩: ∃o,(l++t)[i]? =some o:=⟨l[i],hL2 i _ (lP hil)⟩
     have hmem:i∈Region.ready .any (l++t).toArray done:=by
      rw [vm]
      refine⟨by simpa using hdn,o,by simpa using ho,fun e he Y=>?_⟩
      have:=hedge i o ho
      unfold fx at this
      have:=pG.1 this e (by simpa using he)
      simp only [Y,rn,Bi,tK]at this
      exact ihm e.on (by omega) (by omega) hr
     rw [hr]at hmem;cases hmem
  refine⟨fun hr=>absurd (fun i hi=>hready0 (i+1) i (by omega) hi hr) hall,fun i hi=>?_⟩
  have hil:i<l.length:=by
   rcases oE i l.length with h' |h'
   ·exact h'
   ·exact absurd (lower done a w S σ c i hfree h hi h') hall
  obtain⟨hun,o,ho,hwait⟩:=vm.1 hi
  have ho' :(l++t)[i]? =some o:=by simpa using ho
  have hol:=hL1 i o hil ho'
  obtain⟨e,he,needs,u,V,Z,h3,_,h4,h5⟩:=hget i o hol
  rw [sB]at V h3 h4
  have hF:=h.need ho' hun hwait Z h3
  have his:i<done.size:=by rw [h.dsz,pF];omega
  have hun' :done.getD i false=false:=by rw [<-pS his];exact hun
  have hu' :mL (done.setIfInBounds i true)=fuel:=by have:=sI hun;omega
  have huq: ∀aE,o.dst=some aE-> ∀j p,(l++t)[j]? =some p->done.getD j false=true->p.dst=some aE->i=j:=fun aE hdd j p hj hjd hpd=>by
   rcases oE j l.length with h' |h'
   ·exact hs2 i j o p aE hol (hL1 j p h' hj) hdd hpd
   ·rw [hfree j h']at hjd;cases hjd
  have hfree' : ∀j,l.length<=j->(done.setIfInBounds i true).getD j false=false:=fun j hj=>by
   rw [yC false (by omega)];exact hfree j hj
  have hbl:E.base<=w.heap.size:=h.ext.size
  have hwaits: ∀q,(l++t)[i]? =some q-> ∀e∈q.after,Region.binds .any e=true->done.getD e.on false=true:=fun q hq e he Y=>by
   have:q=o:=by rw [ho']at hq;simpa using hq.symm
   subst this
   exact hwait e he Y
  have hdpp: ∀k∈u.1,k=i\/done.getD k false=true:=fun k hk=>by
   have:=pG.1 h4 k hk
   simp only [jR,y7]at this
   rcases this.2 with Y|Y
   ·exact .inl (qL Y)
   ·exact .inr (hM h.down _ i k hwaits Y)
  have hdNN: ∀aE,o.dst=some aE->aE<E.N.n:=fun aE hd=>(hs1 o (uk hol) aE hd).1
  unfold wpOpIn
  rw [ho]
  show if _ then _ else _
  cases e with
  |false=>
   simp only at h5
   obtain⟨hdS,lo,hi',hwin,h5⟩:=h5
   rw [sB]at hwin
   obtain⟨aE,hdd⟩:=Option.isSome_iff_exists.1 hdS
   have hdN:=(hs1 o (uk hol) aE hdd).1
   unfold XU at hwin
   rw [jR]at hwin
   obtain⟨hw1,hw2⟩:=hwin
   have hw1' :=ul hw1
   have hwk: ∀k,es[k]? =some true->(Nat.ble lo (il es k)=true\/oP (l++t) (l++t).length i k=true)/\(Nat.blt (il es k) hi' =true\/oP (l++t) (l++t).length k i=true):=fun k hk=>by
    have hkl:k<es.length:=(ui.1 hk).1
    have:=pG.1 hw2 k (by simpa using hkl)
    rw [hk]at this
    simpa using this
   have hlo:lo<=c:=by
    rcases oE c lo with hlt|hge
    ·exfalso
     obtain⟨k,hk1,hk2,hk3⟩:=yx (es:=es) (c:=c) (k:=es.length) (by omega)
     rcases(hwk k hk2).1 with Y|Y
     ·have:=ul Y;omega
     ·have:=(h.chain k hk2).1 (hM h.down _ i k hwaits Y)
      omega
    ·exact hge
   have hhi:c<=hi' :=by
    rcases oE hi' c with hlt|hge
    ·exfalso
     obtain⟨k,hk1,hk2,hk3⟩:=yx (es:=es) (c:=hi') (k:=es.length) (by omega)
     rcases(hwk k hk2).2 with Y|Y
     ·simp only [tK]at Y;omega
     ·have hkd:done.getD k false=true:=(h.chain k hk2).2 (by omega)
      have:=hM h.down _ k i (fun q hq e he Y=>h.down k q hq hkd e he Y) Y
      rw [this]at hun';cases hun'
    ·exact hge
   have h6:=h5 c σ hlo hhi a w S h.sat h.own hF
   have hch' : ∀k,es[k]? =some true->((done.setIfInBounds i true).getD k false=true↔il es k<c):=fun k hk=>by
    have hne:i≠k:=fun e=>by subst e;rw [he]at hk;cases hk
    rw [yC false hne];exact h.chain k hk
   by_cases hw:Region.wanted o (yielded (l++t).toArray a.tmps)=true
   ·rw [cz hw]at h6 ⊢
    refine mB (fun a' w' ⟨v,S',ha,A,hs,hv⟩=>?_) h6
    subst ha
    exact ih _ _ _ S' _ c hu' hfree' hcle (h.step ho' hdNN huq hwait V hun hdpp A (fun _ Y=>Y.elim) hs (h.own.ext0 A) (fun _ _=>rfl) hv hch')
   ·rw [cr hw]at h6 ⊢
    exact⟨fun _ _=>trivial,ih _ _ _ S _ c hu' hfree' hcle (h.step ho' hdNN huq hwait V hun hdpp (lr.refl wm _ _) (fun _ Y=>Y.elim) h.sat h.own (fun _ _=>rfl) h6 hch')⟩
  |true=>
   simp only [sB]at h5
   -- it is the next one of the chain
   have hca:il es i=c:=by
    have hn: ¬il es i<c:=fun hlt=>by rw [(h.chain i he).2 hlt]at hun';cases hun'
    rcases oE c (il es i)with hlt|hge
    ·exfalso
     obtain⟨k,hk1,hk2,hk3⟩:=yx hlt
     have hkd:done.getD k false=true:=hM h.down _ i k hwaits (hchain i k hk1 he hk2)
     have:=(h.chain k hk2).1 hkd
     omega
    ·omega
   subst hca
   have h6:=h5 σ a w S h.sat h.own hF hbl
   have hch' : ∀k,es[k]? =some true->((done.setIfInBounds i true).getD k false=true↔il es k<il es i+1):=fun k hk=>by
    by_cases hik:i=k
    ·subst hik
     constructor
     ·intro _;omega
     ·intro _;simp [his]
    ·rw [yC false hik,h.chain k hk]
     constructor
     ·intro h;omega
     ·intro hlt
      rcases oE i k with hlk|hlk
      ·have:=HC hlk he;omega
      ·exact HC (by omega) hk
   have hcle' :il es i+1<=il es es.length:=HC (by omega) he
   by_cases hw:Region.wanted o (yielded (l++t).toArray a.tmps)=true
   ·rw [cz hw]at h6 ⊢
    refine mB (fun a' w' ⟨v,S',x,ha,A,hs,hown,hv⟩=>?_) h6
    subst ha
    exact ih _ _ _ S' _ _ hu' hfree' hcle' (h.step ho' hdNN huq hwait V hun hdpp A (fun b ⟨f,hf,Y⟩=>(dI.mem h.own f hf).2 b Y) hs hown (fun k hk=>JB σ x hk) hv hch')
   ·rw [cr hw]at h6 ⊢
    obtain⟨x,hown,hv⟩:=h6
    exact⟨fun _ _=>trivial,ih _ _ _ S _ _ hu' hfree' hcle' (h.step ho' hdNN huq hwait V hun hdpp (lr.refl wm _ _) (fun _ Y=>Y.elim) h.sat hown (fun k hk=>JB σ x hk) hv hch')⟩
variable{O:List OE}
def ek{id:Nat}(m:Nat)(ts:List TS)(es:List Bool)(Ss:List ((Nat->OI)->List OE))(hO:Ss[0]? =some fun _=>O)(hm:E.P.follows .mixedOrders=true)(hsl:zk E.N.n [] (L.take m)=true)(hlen:ts.length=(L.take m).length)(hesl:es.length=(L.take m).length)(hch:Od L es=true)(M:A1 L (L.take m).length (L.drop m).length=true)(hd:DS E G L ts Ss es 0 0 (L.take m) es)(k: ∀σ:Nat->OI,RG E L.toArray ah (L.drop m) (R7 Ss (il es es.length) σ) (Lw (L.take m) (Ux ts σ) G)):CG E ah (.region id L.toArray true) O G:=fun a w S st=>by
 have hL:L=L.take m++L.drop m:=(uH m L).symm
 generalize L.take m=l at hL hsl hlen hesl M hd k
 generalize L.drop m=t at hL M k
 subst hL
 refine wpIn_region_any hm ?_
 obtain⟨he,hs⟩:=Dt (w:=w) st.sat
 have hO0:R7 Ss 0 (fun _=>oF)=O:=by unfold R7;rw [hO]
 refine KN hsl hlen hesl hd hch M (fun a w S σ st=>k σ a w S st) _ _ _ _ S (fun _=>oF) 0 ?_ (fun j _=>?_) (jW _)
  ⟨st.ext.step0 he,hs,by rw [hO0];exact st.own.ext0 he,st.facts.size,st.facts.defers,by simp,fun j o hj hdone=>?_,fun k t hk _=>st.facts.at_ k t hk,fun j o aE t hj hdone=>?_,fun j p hdone=>?_,fun k _=>⟨fun hdone=>?_,fun h=>(by omega)⟩⟩
 ·unfold mL;rw [OK,OC];simp
 ·simp [Bp];split<;>rfl
 ·simp [Bp]at hdone
  split at hdone<;>simp at hdone
 ·simp [Bp]at hdone
  split at hdone<;>simp at hdone
 ·simp [Bp]at hdone
  split at hdone<;>simp at hdone
 ·simp [Bp]at hdone
  split at hdone<;>simp at hdone
def fK{p:Nat->(Nat->OI)->Prop}{lo:Nat}(h: ∀σ,p lo σ): ∀c σ,lo<=c->c<=lo->p c σ:=fun c σ V Z=>by
 have:c=lo:=by omega
 subst this;exact h σ
def um{p:Nat->(Nat->OI)->Prop}{lo hi:Nat}(h: ∀σ,p lo σ)(k: ∀c σ,lo+1<=c->c<=hi->p c σ): ∀c σ,lo<=c->c<=hi->p c σ:=fun c σ V Z=>by
 by_cases e:c=lo
 ·subst e;exact h σ
 ·exact k c σ (by omega) Z
variable{after:Array Edge}{g:Option (Nat×Bool)}{ok:α->Prop}{op:Op}{pos:String}{post:OI->List OE}
def Db{ty:TypeId}(hnd: ∀c,op≠ .defer c)(h: ∀a w S,mT w S->dI E.base E.B w S O->du E.N S a G->E.base<=w.heap.size-> ∃w' S' x,(execOp a.eval ⟨none,op,ty,pos,after,g⟩).run E.P w= .ok .skip w' /\lr (Pz O) w S w' S' /\mT w' S' /\dI E.base E.B w' S' (post x)):
  EffOK E O G ⟨none,op,ty,pos,after,g⟩ post (fun _=>tR):=fun a w S hs ho hf Y=>by
 obtain⟨w',S',x,V,Z,h3,h4⟩:=h a w S hs ho hf Y
 refine⟨hnd,?_⟩
 rw [V]
 exact⟨undef,S',x,rfl,Z,h3,h4,trivial⟩

abbrev HL:=List (Nat×Value)
def CZ:HL->Nat->Option Value
 |[],_=>none
 |p::hs,o=>bif Nat.beq p.1 o then some p.2 else CZ hs o
def xq: ∀{hs:HL} {o:Nat} {v:Value},CZ hs o=some v->(o,v)∈hs
 |[],_,_,h=>by cases h
 |p::hs,o,v,h=>by
  unfold CZ at h
  by_cases Y:Nat.beq p.1 o=true
  ·rw [Y]at h
   have e1:=qL Y
   have e2:p.2=v:=ro h
   subst e1 e2
   exact oa ..
  ·rw [Dv]at Y
   rw [Y]at h
   exact oD _ (xq h)
def rH{α:Type}(r:Rp α)(hs:HL):Rp α where
 sz:=r.sz
 agg:=r.agg
 rc:=fun S cs x=>r.rc S cs x/\ ∀p∈hs,cs[p.1]? =some p.2
 mono:=fun h k=>⟨r.mono h k.1,k.2⟩
 len:=fun k=>r.len k.1
 one:=fun k=>r.one k.1
 sc:=r.sc
variable{cs:List Value}{off:Nat}
def nD{hs:HL}{get:α->β}(h:jn r off q get):jn (rH r hs) off q get:=fun S cs x k=>h S cs x k.1
def RI(h:cs[off]? =some v):(cs.drop off).take 1=[v]:=by
 have hlt:=(ui.1 h).1
 rw [sG hlt,(ui.1 h).2]
 rfl
def ab7{hs:HL}(h:CZ hs off=some v):jn (rH r hs) off rV (fun _=>v):=fun S cs x k=>by
 have V:=k.2 _ (xq h)
 exact⟨RI V,r.one k.1 v (uk V)⟩
def HZ(z:List Value):HL->Prop
 |[]=>True
 |p::hs=>z[p.1]? =some p.2/\HZ z hs
variable{z:List Value}
def HZ.all: ∀{hs:HL},HZ z hs-> ∀p∈hs,z[p.1]? =some p.2
 |_::_,⟨h,_⟩,_,.head _=>h
 |_::_,⟨_,h⟩,_,.tail _ hm=>HZ.all h _ hm
def zH{x:α}{hs:HL}(h: ∀S,r.rc S z x)(k:HZ z hs): ∀S,(rH r hs).rc S z x:=fun S=>⟨h S,k.all⟩
def Yg(hs:HL)(off sz:Nat):Bool:=hs.all fun p=>Nat.blt p.1 off||Nat.ble (off+sz) p.1
def Zv(hs:HL)(off sz:Nat)(v:Option Value):HL->Prop
 |[]=>True
 |p::l=>((v=some p.2/\p.1=off/\sz=1)\/(CZ hs p.1=some p.2/\(Nat.blt p.1 off||Nat.ble (off+sz) p.1)=true))/\Zv hs off sz v l
variable{sz:Nat}
def Zv.all{hs:HL}{v:Option Value}: ∀{l:HL},Zv hs off sz v l-> ∀p∈l,(v=some p.2/\p.1=off/\sz=1)\/(CZ hs p.1=some p.2/\(Nat.blt p.1 off||Nat.ble (off+sz) p.1)=true)
 |_::_,⟨h,_⟩,_,.head _=>h
 |_::_,⟨_,h⟩,_,.tail _ hm=>Zv.all h _ hm
def zP{ds:List Value}{k:Nat}(hl:ds.length=sz)(hoff:off+sz<=cs.length)(h:(Nat.blt k off||Nat.ble (off+sz) k)=true):(cs.take off++ds++cs.drop (off+sz))[k]? =cs[k]? :=by
 simp only [y7,tK,Nat.ble_eq]at h
 have M:(cs.take off).length=off:=by simp;omega
 rcases h with h|h
 ·rw [E0 (by simp;omega),E0 (by omega),Dw h]
 ·rw [xI (by simp;omega),yX]
  congr 1
  simp only [pF,M,hl];omega
def TW{ds:List Value}(hd:ds=[v])(hoff:off+1<=cs.length):(cs.take off++ds++cs.drop (off+1))[off]? =some v:=by
 subst hd
 have M:(cs.take off).length=off:=by simp;omega
 rw [E0 (by simp;omega),xI (by omega),M,FV]
 rfl
variable{set:α->β->α}{y:α}
def wa{hs hs' :HL}{x:α}{y:β}(h:eS r off q set)(hk:Zv hs off q.sz none hs')(hoff:Nat.ble (off+q.sz) r.sz=true):rj (rH r hs) (rH r hs') off q x y (set x y):=fun S cs ds V Z=>by
 refine⟨h S cs x ds y V.1 Z,fun p hp=>?_⟩
 rcases hk.all p hp with⟨e,_⟩|⟨g1,g2⟩
 ·cases e
 ·have hl:=r.len V.1
  rw [zP (q.len Z) (by have:=ul hoff;omega) g2]
  exact V.2 _ (xq g1)
def IE{hs:HL}(h:eS r off q set)(hk:Yg hs off q.sz=true)(hoff:Nat.ble (off+q.sz) r.sz=true):eS (rH r hs) off q set:=fun S cs x ds y V Z=>by
 refine⟨h S cs x ds y V.1 Z,fun p hp=>?_⟩
 have hl:=r.len V.1
 rw [zP (q.len Z) (by have:=ul hoff;omega) (pG.1 hk p hp)]
 exact V.2 _ hp
variable{T U:TypeId}{h1:MV β}{agg:Bool}{bytes cap:Nat}{dst:Option Tmp}{ops:Array Oper}{rest:List Oper}{xs:List α}{γ:β->Ty}
section
variable{e:Exit}
section
variable{ty:TypeId}
def fA{t:OI->Ty}(h:EffOK E O G ⟨none,op,ty,pos,after,none⟩ post t)(k: ∀x,RG E ops ah rest (post x) G):RG E ops ah (⟨none,op,ty,pos,after,none⟩::rest) O G:= .of rfl fun a w S st=>
 pN (fun a' w' ⟨v,S',x,ha,A,hs,ho,hv⟩=>by
  subst ha
  exact k x _ _ S' ⟨st.ext.step A fun b ⟨f,hf,Y⟩=>(dI.mem st.own f hf).2 b Y,hs,ho,st.facts.mono A.keep⟩) (h a w S st.sat st.own st.facts st.base_le)
def dq{γ:Type}{r' :Rp γ}{x:α}{x' :γ}{y:β}{v:Operand}(ti:TI E.P U sz bytes agg z)(hsz:q.sz=sz)(hset:rj r r' off q x y x')(hoff:Nat.ble (off+q.sz) r.sz=true)(hp:bf E.N G p (tV (an b off)))(hv:bf E.N G v (H q y)):EffOK E (bx r T b x::O) G ⟨none,.store U p v,ty,pos,after,g⟩ (fun _=>bx r' T b x' ::O) (fun _=>tR):=Db (fun _ h=>(by cases h)) fun a w S hs ho hf Y=>by
 have V:a.eval p=an b off:=hp S a hf
 obtain⟨ds,Z,h3⟩:=hv S a hf
 obtain⟨⟨hno,cur,h5,h6⟩,_⟩:=ho.1
 have hl:=r.len h6
 have hoff' :=ul hoff
 obtain⟨w',hr,e1,e2,e3,e4,e5,e6⟩:=jT ti hsz h3 h5 (off:=off) (by simp at hl;omega)
 have hrun:(execOp a.eval ⟨none,.store U p v,ty,pos,after,g⟩).run E.P w= .ok .skip w' :=by
  simp [execOp,V,Z,Instr.storeAt,an,Instr.sureAddr,hr]
 obtain⟨g1,g2,g3⟩:=ne (O:=O) hs (bx r T b x) (bx r' T b x') ho (fun _=>vl) (fun _=>vl) ⟨e1,e2,e3,e4.1,e4.2⟩ e6 ⟨hno,_,e5,by simpa using hset S _ _ h6 h3⟩ hno
 exact⟨w',S,oF,hrun,g1.more fun k hk=>⟨_,oa ..,hk⟩,g2,g3⟩
def ip{hs hs' :HL}{x:α}{y:β}{v:Operand}(ti:TI E.P U 1 bytes false z)(hsz:q.sz=1)(hag:q.agg=false)(hset:eS r off q set)(hoff:Nat.ble (off+1) r.sz=true)(hk:Zv hs off 1 (some u) hs')(hp:bf E.N G p (tV (an b off)))(hv:bf E.N G v (H q y))(hu:bf E.N G v (tV u)):EffOK E (bx (rH r hs) T b x::O) G ⟨none,.store U p v,ty,pos,after,g⟩ (fun _=>bx (rH r hs') T b (set x y)::O) (fun _=>tR):=Db (fun _ h=>(by cases h)) fun a w S hsat ho hf Y=>by
 have V:a.eval p=an b off:=hp S a hf
 obtain⟨ds,Z,h3⟩:=hv S a hf
 have hu' :a.eval v=u:=hu S a hf
 obtain⟨⟨hno,cur,h5,h6⟩,_⟩:=ho.1
 have hl:=r.len h6.1
 have hoff' :=ul hoff
 have hdl:=q.len h3
 have hds:ds=[u]:=by
  obtain⟨aE,hd⟩:=List.length_eq_one_iff.1 (by rw [hdl,hsz]:ds.length=1)
  subst hd
  have e1:q.val [aE]=aE:=by simp [Rp.val,hag]
  rw [Z,e1]at hu'
  rw [hu']
 obtain⟨w',hr,e1,e2,e3,e4,e5,e6⟩:=jT ti hsz h3 h5 (off:=off) (by simp at hl;omega)
 have hrun:(execOp a.eval ⟨none,.store U p v,ty,pos,after,g⟩).run E.P w= .ok .skip w' :=by
  simp [execOp,V,Z,Instr.storeAt,an,Instr.sureAddr,hr]
 rw [hsz]at e5
 have hnew:(rH r hs').rc S (cur.toList.take off++ds++cur.toList.drop (off+1)) (set x y):=by
  have h7:=hset S _ _ _ _ h6.1 h3
  rw [hsz]at h7
  refine⟨h7,fun p hp=>?_⟩
  rcases hk.all p hp with⟨f1,f2,_⟩|⟨f1,f2⟩
  ·rw [f2]
   exact TW (by rw [hds,ro f1]) (by omega)
  ·rw [zP (by rw [hdl,hsz]) (by omega) f2]
   exact h6.2 _ (xq f1)
 obtain⟨g1,g2,g3⟩:=ne (O:=O) hsat (bx (rH r hs) T b x) (bx (rH r hs') T b (set x y)) ho (fun _=>vl) (fun _=>vl) ⟨e1,e2,e3,e4.1,e4.2⟩ e6 ⟨hno,_,e5,by simpa using hnew⟩ hno
 exact⟨w',S,oF,hrun,g1.more fun k hk=>⟨_,oa ..,hk⟩,g2,g3⟩
end
section
variable{ty:TypeId}
def qt{hs:HL}{x:α}(ti:TI E.P U 1 bytes false z)(hk:CZ hs off=some u)(hm:bx (rH r hs) T b x∈O)(hp:bf E.N G p (tV (an b off))):
  cE E O G ⟨dst,.load U p,ty,pos,after,g⟩ (tV u):=(bB (q:=rV) ti rfl rfl (ab7 hk) hm hp).imp fun _ _ h=>(Cv.1 h).1
def cP{q:Rp α}{r:Rp β}{hs:HL}{x:β}{h1:TypeId}{l:Option Nat}(ti:TI E.P U 1 bytes false z)(hk:CZ hs off=some (J l cap xs.length))(hm:bx (rH r hs) T b x∈O)(hm2:K q h1 l cap xs∈O)(hp:bf E.N G p (tV (an b off))):
  cE E O G ⟨dst,.load U p,ty,pos,after,g⟩ (tO q l cap xs):=fun a w S hs' ho hf=>
 pN (fun _ _ ⟨v,S',V,Z,h3,h4⟩=>⟨v,S',V,Z,h3,h4,by
  have h5:v=J l cap xs.length:=h4
  rw [h5]
  exact m7 (((ho.ext0 Z).mem _ hm2).1)⟩) (qt (g:=g) (ty:=ty) (pos:=pos) (after:=after) (dst:=dst) ti hk hm hp a w S hs' ho hf)
def U9{t:Ty}(V: ∀S v,t.p S v->v.oneCell' =true)(A:bf E.N G x t):cE E O G ⟨dst,.box T x,ty,pos,after,g⟩ (bt (rT t) ()):=
 Nv (fun S a hf=>tRT.2 ⟨V _ _ (A S a hf),A S a hf⟩)
end
def UV:HL->HL->Prop
 |[],_=>True
 |p::l,hs=>CZ hs p.1=some p.2/\UV l hs
def UV.all{hs:HL}: ∀{l:HL},UV l hs-> ∀p∈l,p∈hs
 |_::_,⟨h,_⟩,_,.head _=>xq h
 |_::_,⟨_,h⟩,_,.tail _ hm=>UV.all h _ hm
end

variable{B:Nat->Prop}{base:Nat}{x0 x1 x10 x11 x12 x13 x2 x3 x4 x5 x6 x7 x8 x9:OE}
def zY(h:dI base B w S (x0::x1::x2::x3::x4::x5::x6::x7::x8::x9::x10::x11::x12::x13::O)):dI base B w S (x13::x0::x1::x2::x3::x4::x5::x6::x7::x8::x9::x10::x11::x12::O):=
 (nB h zZ (fun f hf=>by simp only [gw]at hf ⊢;rcases hf with h|h|h|h|h|h|h|h|h|h|h|h|h|h<;>simp [h])).swap
def HG(h:RG E ops ah rest (x13::x0::x1::x2::x3::x4::x5::x6::x7::x8::x9::x10::x11::x12::O) G):RG E ops ah rest (x0::x1::x2::x3::x4::x5::x6::x7::x8::x9::x10::x11::x12::x13::O) G:=fun a w S st=>h a w S (st.own_map zY)
def OA{e:Exit}(h:AT E ah e (x13::x0::x1::x2::x3::x4::x5::x6::x7::x8::x9::x10::x11::x12::O) G):AT E ah e (x0::x1::x2::x3::x4::x5::x6::x7::x8::x9::x10::x11::x12::x13::O) G:=fun a w S st=>h a w S (st.own_map zY)
def Mr{x14:OE}(h:dI base B w S (x0::x1::x2::x3::x4::x5::x6::x7::x8::x9::x10::x11::x12::x13::x14::O)):dI base B w S (x14::x0::x1::x2::x3::x4::x5::x6::x7::x8::x9::x10::x11::x12::x13::O):=
 (nB h zY (fun f hf=>by simp only [gw]at hf ⊢;rcases hf with h|h|h|h|h|h|h|h|h|h|h|h|h|h|h<;>simp [h])).swap
def Oz{e:Exit}{x14:OE}(h:AT E ah e (x14::x0::x1::x2::x3::x4::x5::x6::x7::x8::x9::x10::x11::x12::x13::O) G):AT E ah e (x0::x1::x2::x3::x4::x5::x6::x7::x8::x9::x10::x11::x12::x13::x14::O) G:=fun a w S st=>h a w S (st.own_map Mr)
variable{O' :List OE}
def EffOK.perm{t:OI->Ty}(h:EffOK E O' G o post t)(k: ∀{w S},dI E.base E.B w S O->dI E.base E.B w S O')(m: ∀f∈O',f∈O):EffOK E O G o post t:=fun a w S hs ho hf Y=>
 pN (fun _ _ ⟨v,S',x,V,Z,h3,h4,h5⟩=>⟨v,S',x,V,Z.more fun _ ⟨f,hf,hk⟩=>⟨f,m f hf,hk⟩,h3,h4,h5⟩) (h a w S hs (k ho) hf Y)
namespace EffOK
section
variable{t:OI->Ty}
def fr1(h:EffOK E (x1::x0::O) G o post t):EffOK E (x0::x1::O) G o post t:=h.perm (fun hw=>dI.swap hw) (fun f hf=>by simp only [gw]at hf ⊢;rcases hf with h|h|h<;>simp [h])
def fr2(h:EffOK E (x2::x0::x1::O) G o post t):EffOK E (x0::x1::x2::O) G o post t:=h.perm (fun hw=>te hw) (fun f hf=>by simp only [gw]at hf ⊢;rcases hf with h|h|h|h<;>simp [h])
def fr3(h:EffOK E (x3::x0::x1::x2::O) G o post t):EffOK E (x0::x1::x2::x3::O) G o post t:=h.perm (fun hw=>vQ hw) (fun f hf=>by simp only [gw]at hf ⊢;rcases hf with h|h|h|h|h<;>simp [h])
def fr4(h:EffOK E (x4::x0::x1::x2::x3::O) G o post t):EffOK E (x0::x1::x2::x3::x4::O) G o post t:=h.perm (fun hw=>vP hw) (fun f hf=>by simp only [gw]at hf ⊢;rcases hf with h|h|h|h|h|h<;>simp [h])
def fr5(h:EffOK E (x5::x0::x1::x2::x3::x4::O) G o post t):EffOK E (x0::x1::x2::x3::x4::x5::O) G o post t:=h.perm (fun hw=>vO hw) (fun f hf=>by simp only [gw]at hf ⊢;rcases hf with h|h|h|h|h|h|h<;>simp [h])
def fr6(h:EffOK E (x6::x0::x1::x2::x3::x4::x5::O) G o post t):EffOK E (x0::x1::x2::x3::x4::x5::x6::O) G o post t:=h.perm (fun hw=>td hw) (fun f hf=>by simp only [gw]at hf ⊢;rcases hf with h|h|h|h|h|h|h|h<;>simp [h])
def fr7(h:EffOK E (x7::x0::x1::x2::x3::x4::x5::x6::O) G o post t):EffOK E (x0::x1::x2::x3::x4::x5::x6::x7::O) G o post t:=h.perm (fun hw=>vN hw) (fun f hf=>by simp only [gw]at hf ⊢;rcases hf with h|h|h|h|h|h|h|h|h<;>simp [h])
def fr8(h:EffOK E (x8::x0::x1::x2::x3::x4::x5::x6::x7::O) G o post t):EffOK E (x0::x1::x2::x3::x4::x5::x6::x7::x8::O) G o post t:=h.perm (fun hw=>yz hw) (fun f hf=>by simp only [gw]at hf ⊢;rcases hf with h|h|h|h|h|h|h|h|h|h<;>simp [h])
def fr9(h:EffOK E (x9::x0::x1::x2::x3::x4::x5::x6::x7::x8::O) G o post t):EffOK E (x0::x1::x2::x3::x4::x5::x6::x7::x8::x9::O) G o post t:=h.perm (fun hw=>yy hw) (fun f hf=>by simp only [gw]at hf ⊢;rcases hf with h|h|h|h|h|h|h|h|h|h|h<;>simp [h])
def fr10(h:EffOK E (x10::x0::x1::x2::x3::x4::x5::x6::x7::x8::x9::O) G o post t):EffOK E (x0::x1::x2::x3::x4::x5::x6::x7::x8::x9::x10::O) G o post t:=h.perm (fun hw=>ue hw) (fun f hf=>by simp only [gw]at hf ⊢;rcases hf with h|h|h|h|h|h|h|h|h|h|h|h<;>simp [h])
def fr11(h:EffOK E (x11::x0::x1::x2::x3::x4::x5::x6::x7::x8::x9::x10::O) G o post t):EffOK E (x0::x1::x2::x3::x4::x5::x6::x7::x8::x9::x10::x11::O) G o post t:=h.perm (fun hw=>ud hw) (fun f hf=>by simp only [gw]at hf ⊢;rcases hf with h|h|h|h|h|h|h|h|h|h|h|h|h<;>simp [h])
def post_imp{post' :OI->List OE}(h:EffOK E O G o post t)(k: ∀{w S x},dI E.base E.B w S (post x)->dI E.base E.B w S (post' x)):EffOK E O G o post' t:=fun a w S hs ho hf Y=>
 pN (fun _ _ ⟨v,S',x,V,Z,h3,h4,h5⟩=>⟨v,S',x,V,Z,h3,k h4,h5⟩) (h a w S hs ho hf Y)
end
end EffOK
variable{P:Program}{cells:List Value}{mm:Bool}{ys zs:List α}
section
variable{ty:TypeId}
def BS{l:Option Nat}{foff:Nat}{v:β}{i:Int}(ti:TI E.P T sz bytes agg z)(hsz:q.sz=sz)(hset:eS r foff q set)(hoff:Nat.ble (foff+q.sz) r.sz=true)(hy:fB xs i=some y)(hz:xs.set i.toNat (set y v)=zs)(hp:bf E.N G p (tV (dS l (i.toNat*r.sz+foff))))(A:bf E.N G x (H q v)):EffOK E (gb r U l cap xs::O) G ⟨none,.store T p x,ty,pos,after,g⟩ (fun _=>gb r U l cap zs::O) (fun _=>tR):=Db (fun _ h=>(by cases h)) fun a w S hsat hown hf hbase=>by
 subst hz
 have V:a.eval p=dS l (i.toNat*r.sz+foff):=hp S a hf
 obtain⟨ds,Z,h3⟩:=A S a hf
 obtain⟨h0,hy'⟩:=kG hy
 have hlt:i.toNat<xs.length:=(ui.1 hy').1
 obtain⟨cells,hraw,hrc,hno⟩:=hown.1.1
 obtain⟨b,cur,rfl,Y,hle,hcs,h6⟩:=rM hown.1.1 hy'
 obtain⟨cur',hb',hle',hmax,hcs',hct⟩:=hraw
 have hcc:cur' =cur:=by rw [Y]at hb';injection hb' with e;injection e with e1;exact e1.symm
 subst hcc
 have hno' :S b=none:=hno b rfl
 have hoff' :=ul hoff
 have hl3:=q.len h3
 have hmul:i.toNat*r.sz+r.sz<=xs.length*r.sz:=by rw [<-Nat.succ_mul];exact Bo _ hlt
 have hmul2:xs.length*r.sz<=cur'.size:=by rw [hcs];exact Bo _ hle
 obtain⟨w',hr,e1,e2,e3,e4,e5,e6⟩:=jT ti hsz h3 Y (off:=i.toNat*r.sz+foff) (by omega)
 have hrun:(execOp a.eval ⟨none,.store T p x,ty,pos,after,g⟩).run E.P w= .ok .skip w' :=by
  simp [execOp,V,Z,Instr.storeAt,dS,an,Instr.sureAddr,hr]
 have hnew:=hset S _ _ _ _ h6 h3
 have hrc' :=CL hnew hrc hlt
 have hcl:=mF hrc
 have hcells:(cur'.toList.take (i.toNat*r.sz+foff)++ds++cur'.toList.drop (i.toNat*r.sz+foff+q.sz)).take (xs.length*r.sz)=
   cells.take (i.toNat*r.sz)++(((cur'.toList.drop (i.toNat*r.sz)).take r.sz).take foff++ds++((cur'.toList.drop (i.toNat*r.sz)).take r.sz).drop (foff+q.sz))++cells.drop (i.toNat*r.sz+r.sz):=by
  subst hct
  apply KE
  intro j
  simp only [List.getElem?_take,List.getElem?_append,yX,Bk,Cl,pF,HU]
  rcases oE j (xs.length*r.sz)with hj|hj
  ·simp only [hj,jo]
   rcases oE j (i.toNat*r.sz)with hj1|hj1
   ·rw [cz (by omega),cz (by omega),cz (by omega),cz (by omega),cz (by omega),cz (by omega)]
   ·rcases oE j (i.toNat*r.sz+foff)with hj2|hj2
    ·rw [cz (by omega),cz (by omega),cz (by omega),cz (by omega),cr (by omega),cz (by omega),cz (by omega),cz (by omega),cz (by omega)]
     congr 1;omega
    ·rcases oE j (i.toNat*r.sz+foff+q.sz)with hj3|hj3
     ·rw [cz (by omega),cr (by omega),cz (by omega),cr (by omega),cz (by omega),cr (by omega)]
      congr 1;omega
     ·rw [cr (by omega)]
      rcases oE j (i.toNat*r.sz+r.sz)with hj4|hj4
      ·rw [cz (by omega),cr (by omega),cr (by omega),cz (by omega)]
       congr 1;omega
      ·rw [cr (by omega),cz (by omega)]
       congr 1;omega
  ·rw [cr (by omega),cr (by omega),cr (by omega)]
 obtain⟨g1,g2,g3⟩:=ne (O:=O) hsat (gb r U (some b) cap xs) (gb r U (some b) cap (xs.set i.toNat (set y v))) hown (fun k=>⟨fun h=>(ro h).symm,fun h=>by rw [h];rfl⟩) (fun k=>⟨fun h=>(ro h).symm,fun h=>by rw [h];rfl⟩) ⟨e1,e2,e3,e4.1,e4.2⟩ e6
  ⟨_,⟨_,e5,by rw [FW];exact hle,hmax,by simp only [FX,pF,Bk,Cl,HU];omega,by rw [FW];exact hcells⟩,hrc',fun k hk=>by rw [<-ro hk];exact hno'⟩ hno'
 exact⟨w',S,oF,hrun,g1.more fun c hc=>⟨_,oa ..,by rw [hc];rfl⟩,g2,g3⟩
def N2{v:α}{i:Int}(ti:TI E.P U sz bytes agg z)(hsz:r.sz=sz)(hy:fB xs i=some y)(hz:xs.set i.toNat v=zs)(hp:bf E.N G p (tV (an b (i.toNat*r.sz))))(hv:bf E.N G x (H r v)):EffOK E (bx (qr r n) T b xs::O) G ⟨none,.store U p x,ty,pos,after,g⟩ (fun _=>bx (qr r n) T b zs::O) (fun _=>tR):=Db (fun _ h=>(by cases h)) fun a w S hsat hown hf hbase=>by
 subst hz
 have V:a.eval p=an b (i.toNat*r.sz):=hp S a hf
 obtain⟨ds,Z,h3⟩:=hv S a hf
 obtain⟨⟨hno,cur,h5,h6⟩,_⟩:=hown.1
 obtain⟨h0,hy'⟩:=kG hy
 have hlt:i.toNat<xs.length:=(ui.1 hy').1
 have hl:=mF h6.2
 simp only [HU]at hl
 have hmul:i.toNat*r.sz+r.sz<=xs.length*r.sz:=by rw [<-Nat.succ_mul];exact Bo _ hlt
 obtain⟨w',hr,e1,e2,e3,e4,e5,e6⟩:=jT ti hsz h3 h5 (off:=i.toNat*r.sz) (by omega)
 have hrun:(execOp a.eval ⟨none,.store U p x,ty,pos,after,g⟩).run E.P w= .ok .skip w' :=by
  simp [execOp,V,Z,Instr.storeAt,an,Instr.sureAddr,hr]
 obtain⟨g1,g2,g3⟩:=ne (O:=O) hsat (bx (qr r n) T b xs) (bx (qr r n) T b (xs.set i.toNat v)) hown (fun _=>vl) (fun _=>vl) ⟨e1,e2,e3,e4.1,e4.2⟩ e6 ⟨hno,_,e5,by rw [FW];exact h6.1,CL h3 h6.2 hlt⟩ hno
 exact⟨w',S,oF,hrun,g1.more fun c hc=>⟨_,oa ..,hc⟩,g2,g3⟩

section
def oB{x:α}(ti:TI E.P T sz bytes agg z)(A: ∀S,r.rc S z x):
  EffOK E O G ⟨some aE,.alloc T,ty,pos,after,g⟩ (fun i=>bx r T (i.h 0).2 x::O) (fun i=>tV (an (i.h 0).2 0)):=fun a w S hs ho hf Y=>by
 obtain⟨zv,hzr,hzc⟩:=ti.zero w
 obtain⟨he,hs',hno⟩:=lH (w:=w) (.cells z.toArray T (0,0)) hs
 have hrun:(execOp a.eval ⟨some aE,.alloc T,ty,pos,after,g⟩).run E.P w= .ok (.value (an w.heap.size 0)) (w.alloc (.cells z.toArray T (0,0))):=by
  simp [execOp,Instr.alloc,hzr,newVar,newRow,hzc,an]
 refine⟨fun c h=>(by cases h),?_⟩
 rw [hrun]
 exact⟨_,S,oi none w.heap.size,rfl,he.more fun _ Y=>Y.elim,hs',uW ho he (e:=bx r T w.heap.size x) ⟨hno,z.toArray,AS w _,by simpa using A S⟩ (fun b Y=>Ey Y.symm) Y,rfl⟩
def Ek{xs:List Operand}{ats:Array TypeId}(hc:ak E.P f=true)(hs:jE E.P f ts false r T ys)(A:kL E.N G xs ts):
  EffOK E O G ⟨some aE,.call ⟨.value (.func f),xs.toArray,ats⟩,ty,pos,after,g⟩ (fun i=>gb r T (i.h 0).1 (i.h 0).2 ys::O) (fun i=>tV (J (i.h 0).1 (i.h 0).2 ys.length)):=RA (mm:=false) hc hs A (fun _ _ _ _ _=>rfl)
end
section
def dV{l:Option Nat}{o i:Nat}(hf:bP E.P T i=some (off,sz))(h0:Nat.beq sz 0=false)(hm:mj mm r U l cap xs∈O)(hy:fB xs j=some y)(hp:bf E.N G p (tV (dS l o)))(he:o+off=n):
  cE E O G ⟨dst,.fieldAddr T p i,ty,pos,after,g⟩ (tV (dS l n)):=by
 subst he
 exact H7 hf h0 hm hy hp
def bl(A:bf E.N G x (tV (an b off))):cE E O G ⟨dst,.nilCheck x,ty,pos,after,g⟩ (tV (an b off)):= .of_pure fun a w S _ _ hf=>by
 have V:a.eval x=an b off:=A S a hf
 exact⟨an b off,by simp [execOp,V,an],rfl⟩
def vy{t:Ty}(ti:TI E.P U 1 bytes false z)(hp:bf E.N G p (bt (rT t) ())):cE E O G ⟨dst,.load U p,ty,pos,after,g⟩ t:=qu ti hp
end
def oo(h:O=O')(k:RG E ops ah rest O' G):RG E ops ah rest O G:=by subst h;exact k
def hW(h:bf N G x (tV u))(ho:u.oneCell' =true):bf N G x (H rV u):=fun S a hf=>Cv.2 ⟨h S a hf,ho⟩
def Yh{t:Ty}(V: ∀S v,t.p S v->v.oneCell' =true)(h:bf N G x t):bf N G x (H (rT t) ()):=fun S a hf=>tRT.2 ⟨V _ _ (h S a hf),h S a hf⟩
def JL{args:α->List Ty}{res:β->Ty}{f:α->Option β}: ∀S v,(gV P args res f).p S v->v.oneCell' =true:=fun _ _ ⟨_,_,e,_⟩=>by rw [e];rfl
end

def KX{l:Option Nat}{t' e' :TypeId}(M:P.underlying t' =some (.slice e'))(h:AQ mm r U l cap xs w S)(hs:dN xs lo (xs.length:Int)=some ys):
  ∃news,Src P r.sz t' (o0 r.sz l cap lo.toNat ys.length) ys.length news w/\uh r S news ys:=by
 obtain⟨cells,V,Z,_⟩:=h
 obtain⟨lo',m,rfl,hm,h3,h4,rfl⟩:=gN hs
 have hm' :m=xs.length:=by omega
 subst hm'
 rw [AU,Cm]
 cases l with
 |none=>
  have A:xs=[]:=za V.1
  subst A
  exact⟨[],by simpa [o0] using Src.ofNil w M 0,by simp [uh]⟩
 |some b=>
  obtain⟨cur,g1,g2,g3,g4,g5⟩:=V
  have hlen:(xs.drop lo').length=xs.length-lo' :=by simp
  have hcl:=mF Z
  have hsp:xs=xs.take lo' ++xs.drop lo' :=(uH lo' xs).symm
  have htl:(xs.take lo').length=lo' :=by simp;omega
  have hr:uh r S (cells.drop (lo' *r.sz)) (xs.drop lo'):=by
   rw [hsp]at Z
   have:=(rb Z).2
   rwa [htl]at this
  have hmul:lo' *r.sz<=xs.length*r.sz:=Bo _ h3
  refine⟨cells.drop (lo' *r.sz),?_,hr⟩
  unfold o0
  refine Src.ofSlice w M _ _ _ _ (mF hr) (fun j u hu=>?_) (CM hr)
  by_cases hc:cap=lo'
  ·have:xs.drop lo' =[]:=rp (by omega)
   rw [this]at hr
   have hr' :cells.drop (lo' *r.sz)=[]:=hr
   rw [hr']at hu;simp at hu
  ·simp only [hc,jQ]
   rw [jD,Aw g1]
   rw [yX,<-g5]at hu
   have hj:lo' *r.sz+j<xs.length*r.sz:=by
    have:=(ui.1 hu).1
    simp at this;omega
   rw [Dw hj]at hu
   simpa using hu
section
variable{ty:TypeId}
def RS{l:Option Nat}{yt:TypeId}(M:E.P.underlying t=some (.slice e))(hm:mj mm r U l cap xs∈O)(hs:dN xs lo (xs.length:Int)=some ys)(A:bf E.N G x (tV (o0 r.sz l cap lo.toNat ys.length)))(hd:Nat.blt aE E.N.n=true)(k: ∀b,(b=true->ys=[])->RG E ops ah rest O ((aE,H rB b)::G)):RG E ops ah (⟨some aE,.binOp .eql t x (.const (.slice none 0 0)) yt,ty,pos,after,none⟩::rest) O G:= .of rfl fun a w S st=>by
 have V:a.eval x=o0 r.sz l cap lo.toNat ys.length:=A S a st.facts
 obtain⟨⟨cells,hraw,_⟩,_⟩:=st.own.mem _ hm
 have hcn:a.eval (.const (.slice none 0 0))= .slice none 0 0:=rfl
 cases l with
 |none=>
  have hx0:xs=[]:=za hraw.1
  have hy0:ys=[]:=by
   obtain⟨lo',m,_,_,_,_,rfl⟩:=gN hs
   subst hx0;simp
  have h3:(Op.equal t (.slice none 0 0) (.slice none 0 0)).run E.P w= .ok true w:=Fv fun aE=>by
   simp [Op.equalIn,ka M]
  have hrun:(execOp a.eval ⟨some aE,.binOp .eql t x (.const (.slice none 0 0)) yt,ty,pos,after,none⟩).run E.P w= .ok (.value (.bool true)) w:=by
   simp [execOp,V,o0,hcn,eqGuard,binOp,h3]
  refine⟨fun c h=>(by cases h),?_⟩
  rw [hrun]
  exact k true (fun _=>hy0) _ _ S (st.step (lr.refl _ _ _) st.sat hd (jZ.2 rfl))
 |some b=>
  obtain⟨ad,hv⟩: ∃ad,o0 r.sz (some b) cap lo.toNat ys.length= .slice (some ad) ys.length (cap-lo.toNat):=⟨_,rfl⟩
  have h3:(Op.equal t (.slice (some ad) ys.length (cap-lo.toNat)) (.slice none 0 0)).run E.P w= .ok false w:=Fv fun aE=>by
   simp [Op.equalIn,ka M]
  have hrun:(execOp a.eval ⟨some aE,.binOp .eql t x (.const (.slice none 0 0)) yt,ty,pos,after,none⟩).run E.P w= .ok (.value (.bool false)) w:=by
   simp [execOp,V,hv,hcn,eqGuard,binOp,h3]
  refine⟨fun c h=>(by cases h),?_⟩
  rw [hrun]
  exact k false (fun e=>(by cases e)) _ _ S (st.step (lr.refl _ _ _) st.sat hd (jZ.2 rfl))
def Ot{t' :TypeId}{l l2:Option Nat}{cap2:Nat}{us:List α}{y:Operand}(ti:TI E.P T sz bytes agg z)(hsz:r.sz=sz)(hz:Nat.beq z.length sz=true)(h0:Nat.blt 0 sz=true)(h128:Nat.ble bytes 2048=true)(M:E.P.underlying t=some (.slice T))(ht' :t' =t)(hd:Nat.blt aE E.N.n=true)(A:bf E.N G x (tV (J l cap n)))(hm:mj mm r U l2 cap2 us∈gb r T l cap xs::O)(hs:dN us lo (us.length:Int)=some ys)(hy:bf E.N G y (tV (o0 r.sz l2 cap2 lo.toNat ys.length)))(happ:oI xs ys=some zs)(k: ∀l' cap',RG E ops ah rest (gb r T l' cap' zs::O) ((aE,tV (J l' cap' zs.length))::G))(hn:n=xs.length:=by rfl):
  RG E ops ah (⟨some aE,.call ⟨.builtin .append,#[x,y],#[t,t']⟩,ty,pos,after,none⟩::rest) (gb r T l cap xs::O) G:=by
 subst ht'
 exact BY (u:=fun cap' l' =>tV (J l' cap' zs.length)) ti hsz hz h0 h128 M hd A (fun a w S st=>by
  have V:a.eval y=o0 r.sz l2 cap2 lo.toNat ys.length:=hy S a st.facts
  rw [V]
  exact KX M (st.own.mem _ hm).1 hs) happ (fun _ _ _ _ _=>rfl) k hn
end

section
variable{args:α->List Ty}{it:It α}{fp:Nat->Prop}
end

section
variable{ty:TypeId}
end


def FE(l:List (Option Nat×Nat)):OI:={h:=fun n=>l.getD n (none,0)}
def mW(P:Program){hx X ρ:Type}(args:hx->List Ty)(Ob:X->OI->List OE)(res:ρ->Ty)(f:X->hx->Option (ρ×X)):Ty where
 p:=fun S v=> ∀x y R,f x y=some R-> ∃fid fst cap,v= .func (.func fid) fst cap/\ak P fid=true/\ ∀i w S' vs,sj S S' ->mT w S' ->AR S' (args y) vs->dI 0 wm w S' (Ob x i)->
  Calls P fid (fst++vs.toArray++cap) w fun en w' => ∃j v S'',en= .returned v/\(res R.1).p S'' v/\lr (Pz (Ob x i)) w S' w' S'' /\mT w' S'' /\dI 0 wm w' S'' (Ob R.2 j)/\ ∀k,Pz (Ob R.2 j) k->Pz (Ob x i) k\/w.heap.size<=k
 mono:=fun h k x y R hf=>by
  obtain⟨fid,fst,cap,e,hc,hs⟩:=k x y R hf
  exact⟨fid,fst,cap,e,hc,fun i w S' vs hle=>hs i w S' vs (SH.le_trans h hle)⟩
variable{O1:List OE}
section
section
variable{ty:TypeId}
end
def yn{hx X ρ:Type}{args:hx->List Ty}{Ob:X->OI->List OE}{res:ρ->Ty}{f:X->hx->Option (ρ×X)}{x:X}{y:hx}{R:ρ×X}{i:OI}{ty:TypeId}{fo:Operand}{xs:List Operand}{ats:Array TypeId}(Or:List OE)(hO:O=Ob x i++Or)(hf:bf E.N G fo (mW E.P args Ob res f))(hR:f x y=some R)(A:kL E.N G xs (args y))(hpost: ∀j,Ob R.2 j++Or=post j):
  EffOK E O G ⟨some aE,.call ⟨.value fo,xs.toArray,ats⟩,ty,pos,after,g⟩ post (fun _=>res R.1):=fun a w S hsat ho hF Y=>by
 subst hO
 obtain rfl:(fun j=>Ob R.2 j++Or)=post:=funext hpost
 obtain⟨fid,fst,cap,e,hc,hs⟩:=hf S a hF x y R hR
 have hr:(execOp a.eval ⟨some aE,.call ⟨.value fo,xs.toArray,ats⟩,ty,pos,after,g⟩).run E.P w= .ok (.enter fid (fst++(xs.map a.eval).toArray++cap)) w:=by
  simp [execOp,resolve,e,Deferred.ofValue,invoke,ko hc]
 refine⟨fun c h=>(by cases h),?_⟩
 rw [hr]
 exact(hs i w S _ (SH.le_refl _) hsat (A.tys hF) (rk ho).1.weak).mono fun en w' ⟨j,v,S',he,hv,V,Z,h3,h4⟩=>⟨_,he,v,S',j,rfl,V.more fun b ⟨f,hf,Y⟩=>⟨f,HV _ hf,Y⟩,Z,dI.turn ho Y V h3 h4,hv⟩
def RP{t:Ty}{Ob:OI->List OE}{i:OI}(h:ea P f ts O1 (fun _:OI=>t) (fun _=>Ob i)):ea P f ts O1 (fun _:OI=>t) Ob:=fun w S vs hs hv ho=>
 (h w S vs hs hv ho).mono fun _ _ ⟨_,v,S',V,Z,h3,h4,h5,h6⟩=>⟨i,v,S',V,Z,h3,h4,h5,h6⟩
section
variable{N:Nat}{w0:World}{S0:SH}{fn:Func}{ι:Type}{t:ι->Ty}{O2:ι->List OE}
def c0{rvs:List ResultVar}(hr:fn.results=rvs.toArray)(V:Nat.beq rvs.length 1=false)(h:RQ P ⟨N,[]⟩ G rvs ts)(i:ι)(hO:O=O2 i)(M:t i=tT ts):
  AT ⟨P,⟨N,[]⟩,Pz O1,w0,S0,none⟩ (bodyPost P fn (Wu ⟨P,⟨N,[]⟩,Pz O1,w0,S0,none⟩ O1 t O2)) .ret O G:=fun a w S st=>by
 obtain⟨vs,k1,k2,k3⟩:=h.run st.sat st.facts
 have hne: ¬vs.length=1:=by rw [k3];intro e;rw [e]at V;cases V
 refine⟨st.facts.defers,.tuple vs.toArray,?_,PT st rfl i hO (by rw [M];exact⟨vs,rfl,k2⟩)⟩
 have e1:(fn.results.mapM (BF a.tmps)).run P w= .ok vs.toArray w:=by
  rw [hr,List.mapM_toArray,Sem.run_map,k1]
  rfl
 have e3:results fn a.tmps=((fn.results.mapM (BF a.tmps))>>=fun vs=>pure (if h:vs.size=1 then vs[0]else .tuple vs)):=rfl
 rw [e3,sq,e1]
 simp [Result.andThen,hne]
end
def tPV(u:Value)(t:Ty):Ty where
 p:=fun S v=>v=u/\t.p S u
 mono:=fun h ⟨e,k⟩=>⟨e,t.mono h k⟩
def ZW{t:Ty}(h:bf N G x (tPV u t)):bf N G x t:=fun S a hf=>by
 obtain⟨V,Z⟩:=h S a hf
 rw [V];exact Z
def St.settleP{k:Nat}{x:α}(h:St E (bx r T b x::O) G a w S)(hk:look G k=some (tV (an b 0))): ∃S',St E O ((k,tPV (an b 0) (bt r x))::G) a w S' :=by
 obtain⟨S',V⟩:=h.settleB hk
 have hv:a.tmps.getD k undef=an b 0:=h.facts.at_ k _ hk
 refine⟨S',⟨V.ext,V.sat,V.own,⟨V.facts.size,V.facts.defers,fun j t hj=>?_⟩⟩⟩
 have hp:(bt r x).p S' (a.tmps.getD k undef):=V.facts.at_ k _ (by simp [look])
 by_cases Y:Nat.beq k j=true
 ·have e:=qL Y
  subst e
  simp only [look,Nat.beq_refl,cond_true,Cn]at hj
  subst hj
  exact⟨hv,by rw [<-hv];exact hp⟩
 ·rw [Dv]at Y
  have:look ((k,bt r x)::G) j=some t:=by
   simp only [look,Y,cond_false]at hj ⊢;exact hj
  exact V.facts.at_ j t this
def Ok{x:α}(k:Nat)(hk:look G k=some (tV (an b 0)))(h:RG E ops ah rest O ((k,tPV (an b 0) (bt r x))::G)):RG E ops ah rest (bx r T b x::O) G:=
 fun a w _ st=>let⟨S',st'⟩:=st.settleP hk;h a w S' st'
end
variable{et kt:TypeId}{kv:κ->Value}{os:List (Option Nat×Nat)}
section
variable [DecidableEq κ]{k:κ}{i v:Operand}{dst:Option Nat}{ty:TypeId}
def Dl{y:β}(hm:E.P.underlying t=some (.map kt et))(hk:Bh E.P kt kv)(A:bf E.N G x (tV (aG b)))(hi:yT E.N G i (kv k))(hv:bf E.N G v (γ y))(h: ∀os',RG E ops ah rest (ci (JQ γ) kv b none os' (kq m k y)::O) G):
  RG E ops ah (⟨none,.insert t x i v,ty,pos,after,none⟩::rest) (ci (JQ γ) kv b none os m::O) G:= .of rfl fun a w S st=>by
 have V:a.eval x=aG b:=A S a st.facts
 have Z:a.eval i=kv k:=hi S a st.facts
 have h3:(γ y).p S (a.eval v):=hv S a st.facts
 obtain⟨⟨hp,hfp⟩,hap,hO⟩:=st.own
 obtain⟨hno,hnb,es,clock,e3,e4,hst⟩:=hp
 obtain⟨q,hq,hdk,hinj⟩:=hk
 obtain⟨os1,p1,p2,_⟩:=qZ hdk hinj (k:=k) 0 e4
 have hnb1: ∀o∈os1,o.1≠some b:=fun o ho=>by
  rcases p1 o ho with h|h
  ·exact hnb o h
  ·rw [h];exact fun e=>by cases e
 obtain⟨w',os',r,x1,x2,x3,x4⟩:=DY (h1:=JQ γ) (E:=E) (y:=y) (o:=(none,0)) (val:=a.eval v) st.sat hm ⟨q,hq,hdk,hinj⟩ ⟨hno,hnb1,es,clock,e3,p2,hst⟩ ⟨rfl,h3⟩ (fun e=>by cases e) (fun _ _ _ e=>by cases e)
 have hrun:(execOp a.eval ⟨none,.insert t x i v,ty,pos,after,none⟩).run E.P w= .ok .skip w' :=by simp [execOp,V,Z,r]
 refine⟨fun c h=>(by cases h),?_⟩
 rw [hrun]
 have hfp' : ∀j,(ci (JQ γ) kv b none os' (kq m k y)).fp j->(ci (JQ γ) kv b none os m).fp j:=fun j hj=>by
  rcases x4 j hj with(h|⟨o,ho,e⟩)|e
  ·exact .inl h
  ·rcases p1 o ho with h|h
   ·exact .inr ⟨o,h,e⟩
   ·rw [h]at e;cases e
  ·cases e
 exact h os' _ _ S ⟨st.ext.step x1 (fun c hc=>hfp c (.inl hc)),x2,⟨⟨x3,fun j hj=>hfp j (hfp' j hj)⟩,fun f hf j hj=>hap f hf j (hfp' j hj),hO.ext x1 fun f hf j hj hjb=>hap f hf j (.inl hjb) hj⟩,st.facts⟩
end

def wD{κ β:Type}(γ:β->Ty)(kv:κ->Value)(S:SH):List MapEntry->List (κ×β)->Prop
 |[],[]=>True
 |e::es,q::m=>e.key=kv q.1/\(γ q.2).p S e.val/\(∀p∈m,p.1≠q.1)/\wD γ kv S es m
 |_,_=>False
def ym{κ β:Type}{γ:β->Ty}{kv:κ->Value}{S S' :SH}(h:sj S S'): ∀{es:List MapEntry} {m:List (κ×β)},wD γ kv S es m->wD γ kv S' es m
 |[],[],_=>trivial
 |_::_,q::_,⟨V,Z,h3,h4⟩=>⟨V,(γ q.2).mono h Z,h3,ym h h4⟩
def TK{κ β:Type} [DecidableEq κ]{γ:β->Ty}{kv:κ->Value}{w:World}{S:SH}: ∀{es:List MapEntry} {os:List (Option Nat×Nat)} {m:List (κ×β)},yZ (JQ γ) kv w S none es os m->wD γ kv S es m
 |[],[],[],_=>trivial
 |_::_,_::_,_::_,⟨V,Z,_,h4,h5⟩=>⟨V,by rw [cr (by simp)]at Z;exact Z.2,h4,TK h5⟩
def Us{κ β:Type} [DecidableEq κ]{γ:β->Ty}{kv:κ->Value}{w:World}{S:SH}: ∀{es:List MapEntry} {m:List (κ×β)},wD γ kv S es m->yZ (JQ γ) kv w S none es (m.map fun _=>(none,0)) m
 |[],[],_=>trivial
 |_::_,_::_,⟨V,Z,h3,h4⟩=>⟨V,by rw [cr (by simp)];exact⟨rfl,Z⟩,fun _ _ _ h=>(by cases h),h3,Us h4⟩
def DC{κ β:Type}(γ:β->Ty)(kv:κ->Value)(m:List (κ×β)):Ty where
 p:=fun S v=> ∃b es clock,v=aG b/\S b=some (.map es clock)/\wD γ kv S es.toList m
 mono:=fun h ⟨b,es,cl,e,V,Z⟩=>by
  obtain⟨o',h3,h4⟩:=h b _ V
  have h5:o' = .map es cl:=h4
  subst h5
  exact⟨b,es,cl,e,h3,ym h Z⟩
def Pc: ∀S v,(DC γ kv m).p S v->v.oneCell' =true:=fun _ _ ⟨_,_,_,e,_⟩=>by rw [e];rfl
section
variable [DecidableEq κ]{k:κ}{i:Operand}{dst:Option Nat}{ty:TypeId}
def EL{z:β}{zv:Value}(hm:E.P.underlying t=some (.map kt et))(hk:Bh E.P kt kv)(hz:ZV E.P et zv)(hzt: ∀S,(γ z).p S zv)(A:bf E.N G x (DC γ kv m))(hi:yT E.N G i (kv k)):
  cE E O G ⟨dst,.lookup t x i false,ty,pos,after,g⟩ (γ ((ij m k).getD z)):= .of_pure fun a w S hs ho hf=>by
 obtain⟨b,es,clock,V,h3,h4⟩:=A S a hf
 obtain⟨o',h5,h6⟩:=hs b _ h3
 have h7:o' = .map es clock:=h6
 subst h7
 obtain⟨q,hq,hd,hinj⟩:=hk
 have Z:a.eval i=kv k:=hi S a hf
 obtain⟨_,_,_,h8⟩:=qZ hd hinj (k:=k) 0 (Us (w:=w) h4)
 rcases h8 with⟨g1,g2⟩|⟨y,o,e,j,g1,g2,g3,g4,g5⟩
 ·refine⟨zv,by simp [execOp,V,Z,lD hm hq (hd k) h5 hz g2],by rw [g1];exact hzt S⟩
 ·refine⟨e.val,by simp [execOp,V,Z,lD hm hq (hd k) h5 hz g4],by rw [g1];exact g3.2⟩
def St.settleMp{j:Nat}(h:St E (ci (JQ γ) kv b none os m::O) G a w S)(hk:look G j=some (tV (aG b))): ∃S',St E O ((j,DC γ kv m)::G) a w S' :=by
 obtain⟨⟨hn,_,es,clock,h3,h4,_⟩,_⟩:=h.own.1
 obtain⟨h8,hle,_,_⟩:=BD h (.inl rfl) h3 (xh _) hn
 have hv:a.tmps.getD j undef=aG b:=h.facts.at_ j _ hk
 exact⟨_,h8.cons ⟨b,es,clock,hv,by simp [SH.set],ym hle (TK h4)⟩⟩
def MC{e:Exit}(j:Nat)(hk:look G j=some (tV (aG b)))(h:AT E ah e O ((j,DC γ kv m)::G)):AT E ah e (ci (JQ γ) kv b none os m::O) G:=
 fun a w _ st=>let⟨S',st'⟩:=st.settleMp hk;h a w S' st'
end

def GS:Nat:=1000000
def tGl{α:Type}(r:Rp α)(x:α)(g:Nat):Ty where
 p:=fun S _=>(bt r x).p S (an g 0)
 mono:=fun h k=>(bt r x).mono h k
def Yk{x:α}{g:Nat}{vs:List Value}(hs:mT w S)(D:(g,vs)∈glob)(hr: ∀S,r.rc S vs x):(bt r x).p S (an g 0):=by
 obtain⟨c,T,fr,V,Z⟩:=hs.gl _ D
 refine⟨g,0,c,T,fr,rfl,V,?_⟩
 rw [sC,<-r.len (hr S)]
 have h3:c.toList.take vs.length=vs:=Z
 rw [h3]
 exact hr S
variable{s:cS}
section
variable{ty:TypeId}
def Tk{t:Ty}(hf:du N S a G)(h: ∀v,t.p S v):du N S a ((GS,t)::G):=⟨hf.size,hf.defers,fun j u hj=>by
 unfold look at hj
 cases Y:Nat.beq GS j with
 |true=>
  rw [Y]at hj
  simp only [cond_true,Cn]at hj
  rw [<-hj];exact h _
 |false=>
  rw [Y]at hj
  simp only [cond_false]at hj
  exact hf.at_ j u hj⟩
def Jo{x:α}{v:Nat}{vs:List Value}{t:Ty}(D:(v,vs)∈glob)(hr: ∀S,r.rc S vs x)(h:cE E O ((GS,tGl r x v)::G) o t):cE E O G o t:=fun a w S hs ho hf=>
 h a w S hs ho (Tk hf fun _=>Yk hs D hr)
def Xe{x:α}{v:Nat}:bf N ((GS,tGl r x v)::G) (.global v) (bt r x):=fun S a hf=>hf.at_ GS (tGl r x v) (by simp [look])
def uy(s:cS)(i:Int):Option Int:=(fB s i).map fun b=>(b.toNat:Int)
def lM{ix:Operand}{i y:Int}(M:E.P.underlying t=some .string)(A:bf E.N G x (H rS s))(hi:bf E.N G ix (H (rI k) i))(hy:uy s i=some y):
  cE E O G ⟨dst,.index t x ix,ty,pos,after,g⟩ (H (rI .u8) y):= .of_pure fun a w S _ _ hf=>by
 have V:a.eval x= .string ⟨s.toArray⟩:=uo.1 (A S a hf)
 have Z:a.eval ix= .int k i:=ge.1 (hi S a hf)
 unfold uy at hy
 cases Y:fB s i with
 |none=>rw [Y]at hy;cases hy
 |some b=>
  rw [Y]at hy
  obtain⟨g1,g2⟩:=kG Y
  have hlt:i.toNat<s.length:=(ui.1 g2).1
  have e:y=(b.toNat:Int):=by simpa using hy.symm
  have hsz:(ByteArray.mk s.toArray).size=s.length:=by simp [ByteArray.size]
  refine⟨.int .u8 y,?_,ge.2 rfl⟩
  have h3:=run_index_string (P:=E.P) w t ⟨s.toArray⟩ k i M
  rw [dif_pos (by rw [hsz];omega)]at h3
  have h4:(ByteArray.mk s.toArray)[i.toNat]'(by rw [hsz];exact hlt)=b:=by
   have:=(ui.1 g2).2
   show s.toArray[i.toNat]=b
   simpa using this
  simp only [execOp,V,Z,sq,h3,tJ,EB]
  rw [h4,e]
def DV{u:cS}{hi:Operand}(M:E.P.underlying t=some .string)(A:bf E.N G x (H rS s))(hh:bf E.N G hi (H (rI k) j))(hy:dN s 0 j=some u):
  cE E O G ⟨dst,.slice t x none (some hi) none,ty,pos,after,g⟩ (H rS u):= .of_pure fun a w S _ _ hf=>by
 have V:a.eval x= .string ⟨s.toArray⟩:=uo.1 (A S a hf)
 have Z:a.eval hi= .int k j:=ge.1 (hh S a hf)
 obtain⟨l,m,e1,e2,e3,e4,e5⟩:=gN hy
 have el:l=0:=by omega
 subst el e2 e5
 have hsz:(ByteArray.mk s.toArray).size=s.length:=by simp [ByteArray.size]
 have h3:=run_slice_string_h (P:=E.P) w t ⟨s.toArray⟩ M k (m:Int) (by omega) (by rw [hsz];omega)
 refine⟨_,by simp only [execOp,V,Z,Option.map_none,Il,sq,run_sliceAt_string w t _ _ _ _ M,h3,tJ,EB];rfl,uo.2 ?_⟩
 congr 1
 apply ByteArray.ext
 simp
end
open Go.MapKept (Stamped)
section
variable [DecidableEq κ]
def tNx(b:Bool):Ty where
 p:=fun _ v=> ∃vs:List Value,v= .tuple (.mk (.bool b::vs))
 mono:=fun _ h=>h
end
section
variable [DecidableEq κ]{r:Nat}{left:List κ}{cur:Option κ}{k:κ}{i v:Operand}{dst:Option Nat}{ty:TypeId}
def JO{f:Bool}(A:bf E.N G x (tNx f)):cE E O G ⟨dst,.extract x 0,ty,pos,after,g⟩ (H rB f):=
 .of_pure fun a w S _ _ hf=>by
  obtain⟨vs,V⟩:=A S a hf
  exact⟨.bool f,by simp [execOp,V,Instr.extract],jZ.2 rfl⟩
end
open Go.RowKit

def Rw(hs:mT w S)(h:Below w.heap.size w w')(hd:w.drawn<=w'.drawn):lr wm w S w' S/\mT w' S:=
 ⟨⟨h.os,h.tape,h.output,hd,h.size,fun k hk _=>h.block k hk,SH.le_refl _,fun _ _ _=>rfl⟩,hs.same fun b o Y=>h.block b (hs.lt Y)⟩
def Mn{t:cS}(h: ∀w:World,QE w->Calls P f #[.string ⟨s.toArray⟩] w fun e w' =>e= .returned (.string ⟨t.toArray⟩)/\Below w.heap.size w w'):cI P f [H rS s] (H rS t):=fun w S vs hs hv=>by
 match vs,hv with
 |[v],⟨V,_⟩=>
  obtain rfl:=uo.1 V
  refine(Mj (h w hs.tab) (fun w' hr=>by cases hr.1)).mono fun e w' ⟨⟨he,Y⟩,hd⟩=>?_
  obtain⟨k1,k2⟩:=Rw hs Y hd
  exact⟨_,S,he,k1,k2,uo.2 rfl⟩

def oL(xs:List Int):cS:=xs.map fun n=>UInt8.ofNat n.toNat
def G5: ∀(xs:List Int) (r:ByteArray),xs.foldl (fun r n=>r.push (UInt8.ofNat n.toNat)) r=⟨r.data++(oL xs).toArray⟩
 |[],r=>by simp [oL]
 |x::xs,r=>by
  rw [List.foldl_cons,G5 xs]
  simp [oL,ByteArray.push]
def CN{k:IntKind}{S:SH}: ∀{xs:List Int} {cs:List Value},uh (rI k) S cs xs->cs=xs.map (Value.int k)
 |[],cs,h=>by rw [show cs=[]from h];rfl
 |x::xs,cs,⟨a,b,e,V,Z⟩=>by
  rw [e,show a=[.int k x]from V,CN Z]
  rfl
section
variable{ty:TypeId}
def IU{xs:List Int}{st dt:TypeId}(hs:E.P.underlying st=some (.slice e))(he:E.P.underlying e=some (.int .u8))(hd:E.P.underlying dt=some .string)(ti:TI E.P e sz bytes agg z)(hsz:Nat.beq sz 1=true)(A:bf E.N G x (H (eO (rI .u8)) xs)):cE E O G ⟨dst,.convert st dt x,ty,pos,after,g⟩ (H rS (oL xs)):= .of_pure fun a w S hsat _ hf=>by
 obtain⟨ad,cap,hv,hle,hmax,hsl⟩:=mY.1 (A S a hf)
 refine⟨.string ⟨(oL xs).toArray⟩,?_,uo.2 rfl⟩
 have key: ∀(ad:Option Addr),IC (rI .u8) S ad xs->(ad=none->xs=[])->(Conv.bytesToString (.slice ad xs.length cap)).run E.P w= .ok (.string ⟨(oL xs).toArray⟩) w:=fun ad h h0=>by
  cases ad with
  |none=>rw [h0 rfl];rfl
  |some p=>
   have hl:(loadCells p xs.length).run E.P w= .ok (xs.map (Value.int .u8)).toArray w:=by
    rcases h with h|⟨b,off,cc,T,fr,V,Z,h3⟩
    ·rw [h];rfl
    ·cases V
     obtain⟨c',h4,h5⟩:=hsat.part Z (mF h3)
     have h6:xs.length*(rI .u8).sz=xs.length:=by show xs.length*1=_;omega
     rw [h6]at h3 h5
     have h7:=CN h3
     exact xf h4 (h5.trans h7) (by simp)
   rw [run_bytesToString w p xs.length cap xs hl,G5]
   simp [ByteArray.empty,ByteArray.emptyWithCapacity]
   rfl
 simp [execOp,hv,run_convert_bytes_string w st dt e _ _ _ hs he hd,key ad hsl (fun h=>by
  rcases hsl with V|⟨b,off,cc,T,fr,V,_⟩
  ·exact V
  ·rw [h]at V;cases V)]
def Q8(ha:E.P.underlying t=some (.array n e))(ti:TI E.P e sz bytes agg z)(hn:Nat.ble n maxLen=true)(A:bf E.N G x (bt (qr r n) xs)):cE E O G ⟨dst,.slice t x none none none,ty,pos,after,g⟩ (H (eO r) xs):= .of_pure fun a w S _ _ hf=>by
 obtain⟨b,off,c,T,fr,V,Z,h3,h4⟩:=A S a hf
 have hz:(⟨b,off,none⟩:Addr).add 0=⟨b,off,none⟩:=by rw [jD,FU]
 refine⟨.slice (some ⟨b,off,none⟩) n n,?_,mY.2 ⟨_,_,by rw [h3],by omega,ul hn,.inr ⟨b,off,c,T,fr,rfl,Z,by rw [h3];exact h4⟩⟩⟩
 by_cases h0:n=0
 ·subst h0
  simp [execOp,V,Instr.sliceAt,ka ha,ti.sizeOf,Instr.sliceBounds,Instr.sureAddr]
 ·simp [execOp,V,Instr.sliceAt,ka ha,ti.sizeOf,Instr.sliceBounds,Instr.sureAddr,h0,hz]
def xj{ix:Operand}{i:Int}(M:E.P.underlying t=some (.array n e))(ti:TI E.P e sz bytes agg z)(hsz:r.sz=sz)(hag:r.agg=agg)(A:bf E.N G x (H (qr r n) xs))(hi:bf E.N G ix (H (rI k) i))(hy:fB xs i=some y):cE E O G ⟨dst,.index t x ix,ty,pos,after,g⟩ (H r y):= .of_pure fun a w S _ _ hf=>by
 obtain⟨cs,V,Z,h3⟩:=A S a hf
 have h1' :a.eval x= .agg cs.toArray:=V
 have h4:a.eval ix= .int k i:=ge.1 (hi S a hf)
 obtain⟨g1,g2⟩:=kG hy
 have hlt:i.toNat<xs.length:=(ui.1 g2).1
 have D:=CO h3 g2
 have hin:0<=i/\i<(n:Int):=⟨g1,by omega⟩
 refine⟨r.val ((cs.drop (i.toNat*r.sz)).take r.sz),?_,_,rfl,D⟩
 have hp:(part e cs.toArray (i.toNat*sz)).run E.P w= .ok (r.val ((cs.drop (i.toNat*r.sz)).take r.sz)) w:=by
  subst hsz
  subst hag
  have hl:=r.len D
  unfold part
  simp only [sq,ti.isAgg,tJ]
  cases hA:r.agg with
  |true=>
   simp [ti.sizeOf,Rp.val,hA]
  |false=>
   have V:=r.sc hA
   rw [V,FT]at hl ⊢
   cases hd:cs.drop i.toNat with
   |nil=>rw [hd]at hl;simp at hl
   |cons v l=>
    have hv:cs[i.toNat]? =some v:=by
     have:=yX (xs:=cs) (i:=i.toNat) (j:=0)
     rw [hd]at this
     simpa using this.symm
    simp [Rp.val,hA,hv]
 simp [execOp,h1',h4,Instr.index,asIntOf,ka M,hin,ti.sizeOf,hp]

def u9(s:cS)(i:Nat):Nat×Nat:=Utf8.decode ⟨s.toArray⟩ i
def vr(s:cS):Nat->Nat->List (Int×Int)
 |0,_=>[]
 |f+1,i=>if i<s.length then((i:Int),((u9 s i).1:Int))::vr s f (i+(u9 s i).2)else []
def Li(s:cS):List (Int×Int):=vr s (s.length+1) 0
def Wy(s:cS)(i:Nat):1<=(u9 s i).2:=by
 unfold u9 Utf8.decode
 simp only []
 repeat' split
 all_goals simp
def H1(r:Nat)(s:cS)(left:List (Int×Int)):OE where
 fp:=fun j=>j=r
 p:=fun w S=>S r=none/\ ∃pos f,w.heap[r]? =some (.stringIter ⟨s.toArray⟩ pos)/\left=vr s f pos/\s.length<pos+f
 here:=by
  rintro w S ⟨_,pos,f,h,_⟩ j rfl
  exact(Bq.1 h).1
 kept:=by
  rintro C w w' S S' ⟨h0,pos,f,h,Z⟩ k hC
  have hlt:=(Bq.1 h).1
  exact⟨by rw [k.old r hlt (hC r rfl)];exact h0,pos,f,by rw [k.heap r hlt (hC r rfl)];exact h,Z⟩
def Mp(M:E.P.underlying t=some .string)(A:bf E.N G x (H rS s))(hd:Nat.blt aE E.N.n=true)(k: ∀r,RG E ops ah rest (H1 r s (Li s)::O) ((aE,tV (an r 0))::G)):RG E ops ah (⟨some aE,.range t x,ty,pos,after,none⟩::rest) O G:= .of rfl fun a w S st=>by
 have hv:a.eval x= .string ⟨s.toArray⟩:=uo.1 (A S a st.facts)
 have hrun:(execOp a.eval ⟨some aE,.range t x,ty,pos,after,none⟩).run E.P w= .ok (.value (an w.heap.size 0)) (w.alloc (.stringIter ⟨s.toArray⟩ 0)):=by
  simp [execOp,hv,Instr.range,ka M,an]
 refine⟨fun c h=>(by cases h),?_⟩
 rw [hrun]
 obtain⟨he,hs',hno⟩:=lH (w:=w) (.stringIter ⟨s.toArray⟩ 0) st.sat
 exact k w.heap.size _ _ S ⟨st.ext.step0 he,hs',uW st.own he ⟨hno,0,s.length+1,AS w _,rfl,by omega⟩ (fun b Y=>by rw [show b=_ from Y];exact gc _) st.base_le,st.facts.put hd rfl⟩
def Ol{r:Nat}{left:List (Int×Int)}(A:bf E.N G x (tV (an r 0)))(hd:Nat.blt aE E.N.n=true)(h0:left=[]->RG E ops ah rest (H1 r s []::O) ((aE,tNx false)::G))(V: ∀e l,left=e::l->RG E ops ah rest (H1 r s l::O) ((aE,tT [H rB true,H (rI .i64) e.1,H (rI .i32) e.2])::G)):
  RG E ops ah (⟨some aE,.next x true,ty,pos,after,none⟩::rest) (H1 r s left::O) G:= .of rfl fun a w S st=>by
 obtain⟨⟨⟨hno,ps,f,Y,hl,hf⟩,hfp⟩,hap,hO⟩:=st.own
 have hv:a.eval x=an r 0:=A S a st.facts
 have hsz:(ByteArray.mk s.toArray).size=s.length:=by simp [ByteArray.size]
 have D:(getObj r).run E.P w= .ok (.stringIter ⟨s.toArray⟩ ps) w:=by
  simp [getObj,Sem.run,Y]
 by_cases hp:ps<s.length
 ·obtain⟨f,rfl⟩: ∃f',f=f' +1:=⟨f-1,by omega⟩
  have hl2:left=((ps:Int),((u9 s ps).1:Int))::vr s f (ps+(u9 s ps).2):=by rw [hl,vr,cz hp]
  have hset:(setObj r (.stringIter ⟨s.toArray⟩ (ps+(u9 s ps).2))).run E.P w= .ok () {w with heap:=w.heap.setIfInBounds r (.stringIter ⟨s.toArray⟩ (ps+(u9 s ps).2))}:=by
   simp [setObj,Sem.run,Y]
  have hrun:(execOp a.eval ⟨some aE,.next x true,ty,pos,after,none⟩).run E.P w= .ok (.value (.tuple #[.bool true,.int .i64 ps,.int .i32 (u9 s ps).1])) {w with heap:=w.heap.setIfInBounds r (.stringIter ⟨s.toArray⟩ (ps+(u9 s ps).2))}:=by
   have h3:(Instr.next (an r 0) true ty).run E.P w= .ok (.tuple #[.bool true,.int .i64 ps,.int .i32 (u9 s ps).1]) {w with heap:=w.heap.setIfInBounds r (.stringIter ⟨s.toArray⟩ (ps+(u9 s ps).2))}:=by
    unfold Instr.next an
    simp only [sq,D,tJ,hsz,hp,jo]
    rw [show Utf8.decode ⟨s.toArray⟩ ps=u9 s ps from rfl]
    simp only [sq,hset,tJ]
    rfl
   simp [execOp,hv,h3]
  refine⟨fun c h=>(by cases h),?_⟩
  rw [hrun]
  have hblt:=(Bq.1 Y).1
  have hx' :lr (fun k=> ∃f∈[H1 r s left],f.fp k) w S {w with heap:=w.heap.setIfInBounds r (.stringIter ⟨s.toArray⟩ (ps+(u9 s ps).2))} S:=
   ⟨rfl,rfl,rfl,gc _,by simp,fun k _ hk=>by
    have:r≠k:=fun e=>hk ⟨_,OL _,e.symm⟩
    simp [this],SH.le_refl _,fun _ _ _=>rfl⟩
  have hs' :mT {w with heap:=w.heap.setIfInBounds r (.stringIter ⟨s.toArray⟩ (ps+(u9 s ps).2))} S:=st.sat.same fun k o hk=>by
   have:r≠k:=fun e=>by subst e;rw [hno]at hk;cases hk
   simp [this]
  have hnew:(H1 r s (vr s f (ps+(u9 s ps).2))).p {w with heap:=w.heap.setIfInBounds r (.stringIter ⟨s.toArray⟩ (ps+(u9 s ps).2))} S:=
   ⟨hno,_,f,by simp [hblt],rfl,by have:=Wy s ps;omega⟩
  refine V _ _ hl2 _ _ S ((st.turn (O1:=[H1 r s left]) (O2:=[H1 r s (vr s f (ps+(u9 s ps).2))]) hx' hs' ⟨⟨hnew,fun k hk=> .inl (jW _)⟩,fun _ h=>(by cases h),trivial⟩ (fun k ⟨g,D,hk⟩=>?_)).put hd ?_)
  ·have:g=H1 r s (vr s f (ps+(u9 s ps).2)):=by simpa using D
   subst this
   exact .inl ⟨_,OL _,hk⟩
  ·exact⟨[.bool true,.int .i64 ps,.int .i32 (u9 s ps).1],rfl,jZ.2 rfl,ge.2 rfl,ge.2 rfl,trivial⟩
 ·have hl2:left=[]:=by
   rw [hl]
   cases f with
   |zero=>rfl
   |succ f=>rw [vr,cr hp]
  have hrun:(execOp a.eval ⟨some aE,.next x true,ty,pos,after,none⟩).run E.P w= .ok (.value (.tuple #[.bool false])) w:=by
   have h3:(Instr.next (an r 0) true ty).run E.P w= .ok (.tuple #[.bool false]) w:=by
    unfold Instr.next an
    simp only [sq,D,tJ,hsz,hp,jQ]
    rfl
   simp [execOp,hv,h3]
  refine⟨fun c h=>(by cases h),?_⟩
  rw [hrun]
  subst hl2
  exact h0 rfl _ _ S (st.put hd ⟨[],rfl⟩)
def A8{t:Ty}{u:List Ty}{i:Nat}(hu:u[i]? =some t)(A:bf E.N G x (tT u)):cE E O G ⟨dst,.extract x i,ty,pos,after,g⟩ t:=GP hu A
def Zp{h2:List β->Prop}{Of:List β->List OE}{Gf:mK}(h: ∀l,h2 l->(∀l2,l2.length<l.length->h2 l2->LG E ah c (Of l2) Gf)->LG E ah c (Of l) Gf)(l:List β)(hz:h2 l):LG E ah c (Of l) Gf:=by
 have key: ∀(n:Nat) (l:List β),l.length<=n->h2 l->LG E ah c (Of l) Gf:=by
  intro n
  induction n with
  |zero=>intro l hn hz;exact h l hz fun l2 Z _=>absurd Z (by omega)
  |succ n ih=>intro l hn hz;exact h l hz fun l2 Z hz2=>ih l2 (by omega) hz2
 exact key l.length l (gc _) hz
end

abbrev NG:=Nat->(Option Nat×Nat)×(Nat->Option Nat×Nat)
inductive NPl where
 |o
 |i (k:Nat)
 |l (k j:Nat)
section
def hd2(q:Nat->Option Nat×Nat)(zs:List (List α)):List Value:=zs.mapIdx fun j z=>J (q j).1 (q j).2 z.length
def hd1(prj:β->List (List α))(g:NG)(x:List β):List Value:=x.mapIdx fun k y=>J (g k).1.1 (g k).1.2 (prj y).length
def nsB(prj:β->List (List α))(l:Option Nat)(g:NG)(x:List β)(h:Option (Nat×Nat)):NPl->Option Nat
 | .o=>l
 | .i k=>(x[k]?).bind fun _=>(g k).1.1
 | .l k j=>if h=some (k,j)then none else((x[k]?).bind fun y=>(prj y)[j]?).bind fun _=>((g k).2 j).1
structure nstP(prj:β->List (List α))(r:Rp α)(T1 T2 T3:TypeId)(l:Option Nat)(cap n:Nat)(g:NG)(x:List β)(h:Option (Nat×Nat))(w:World)(S:SH):Prop where
 len:x.length=n
 out:AQ false rV T1 l cap (hd1 prj g x) w S
 inn: ∀k y,x[k]? =some y->AQ false rV T2 (g k).1.1 (g k).1.2 (hd2 (g k).2 (prj y)) w S
 lvs: ∀k y j z,x[k]? =some y->(prj y)[j]? =some z->h≠some (k,j)->AQ true r T3 ((g k).2 j).1 ((g k).2 j).2 z w S
 inj: ∀s t b,nsB prj l g x h s=some b->nsB prj l g x h t=some b->s=t
variable{prj:β->List (List α)}{T1 T2 T3:TypeId}{l:Option Nat}{g:NG}{x:List β}{h:Option (Nat×Nat)}
end
section
variable{prj:β->List (List α)}{T1 T2 T3:TypeId}{l:Option Nat}{g:NG}{x:List β}{h:Option (Nat×Nat)}
variable{ty:TypeId}{gd:Option (Nat×Bool)}
open Classical in
noncomputable def abR(w:World)(S:SH)(P:Nat->Prop):SH:=fun b=>if P b then w.heap[b]? else S b
def g0(hs:List (Option Nat×Nat)):NG:=fun k=>(hs.getD k (none,0),fun _=>(none,0))
def tsB(l:Option Nat)(q:Nat->Option Nat×Nat)(zs:List (List α))(h:Option Nat):Option Nat->Option Nat
 |none=>l
 |some j=>if h=some j then none else(zs[j]?).bind fun _=>(q j).1
structure rowP(r:Rp α)(T2 T3:TypeId)(l:Option Nat)(cap n:Nat)(q:Nat->Option Nat×Nat)(zs:List (List α))(h:Option Nat)(w:World)(S:SH):Prop where
 len:zs.length=n
 inn:AQ false rV T2 l cap (hd2 q zs) w S
 lvs: ∀j z,zs[j]? =some z->h≠some j->AQ true r T3 (q j).1 (q j).2 z w S
 inj: ∀s t b,tsB l q zs h s=some b->tsB l q zs h t=some b->s=t
variable{q:Nat->Option Nat×Nat}{zs:List (List α)}{k:Option Nat}
end

def Ib(es:List Bool)(done:Array Bool):List Nat:=(List.range es.length).filter fun k=>(es[k]?).getD false&&done.getD k false
def Vh(es:List Bool)(i:Nat)(s:List Nat):List Nat:=(List.range es.length).filter fun k=>Nat.beq k i||s.contains k
def Zi:List Nat->List Nat->Bool
 |[],[]=>true
 |a::s,b::t=>Nat.beq a b&&Zi s t
 |_,_=>false
def NZ: ∀{s t:List Nat},Zi s t=true->s=t
 |[],[],_=>rfl
 |a::s,b::t,h=>by
  simp only [Zi,jR]at h
  rw [qL h.1,NZ h.2]
 |[],_::_,h=>by cases h
 |_::_,[],h=>by cases h
def R6:List (List Nat×((Nat->OI)->List OE))->List Nat->(Nat->OI)->List OE
 |[],_,_=>[]
 |p::r,s,σ=>bif Zi p.1 s then p.2 σ else R6 r s σ
def CU{k:Nat}:k∈Ib es done↔es[k]? =some true/\done.getD k false=true:=by
 unfold Ib
 rw [List.mem_filter,List.mem_range,jR]
 constructor
 ·rintro⟨V,Z,h3⟩
  refine⟨?_,h3⟩
  rw [lP V]at Z ⊢
  simpa using Z
 ·rintro⟨V,Z⟩
  exact⟨(ui.1 V).1,by rw [V];rfl,Z⟩
def RC{i:Nat}(h:es[i]? =some false):Ib es (done.setIfInBounds i true)=Ib es done:=by
 unfold Ib
 refine List.filter_congr fun k hk=>?_
 by_cases hik:i=k
 ·subst hik;rw [h];rfl
 ·rw [yC false hik]
def Wx{i:Nat}(h:es[i]? =some true)(hs:i<done.size):Ib es (done.setIfInBounds i true)=Vh es i (Ib es done):=by
 unfold Vh
 conv=>lhs;unfold Ib
 refine List.filter_congr fun k hk=>?_
 by_cases hik:i=k
 ·subst hik;simp [h,hs]
 ·rw [yC false hik]
  have Y:Nat.beq k i=false:=by
   cases Y:Nat.beq k i with
   |false=>rfl
   |true=>exact absurd (qL Y).symm hik
  rw [Y,Bi,wZ,KI,CU,jR]
  constructor
  ·rintro⟨V,Z⟩
   refine⟨?_,Z⟩
   cases he:es[k]? with
   |none=>rw [he]at V;cases V
   |some b=>rw [he]at V;simpa using V
  ·rintro⟨V,Z⟩
   exact⟨by rw [V];rfl,Z⟩
def Ix:List Nat->List (List Nat)
 |[]=>[[]]
 |k::l=>(Ix l).map (k:: ·)++Ix l
def Fm(es:List Bool):List Nat:=(List.range es.length).filter fun k=>(es[k]?).getD false
def zD(p:Nat->Bool): ∀l:List Nat,l.filter p∈Ix l
 |[]=>Bn.2 rfl
 |k::l=>by
  unfold Ix
  rw [Bj]
  by_cases h:p k=true
  ·rw [List.filter_cons_of_pos h]
   exact .inl (vX.2 ⟨_,zD p l,rfl⟩)
  ·rw [List.filter_cons_of_neg h]
   exact .inr (zD p l)
def TO(es:List Bool)(done:Array Bool):Ib es done∈Ix (Fm es):=by
 have:Ib es done=(Fm es).filter fun k=>done.getD k false:=by
  unfold Ib Fm
  rw [List.filter_filter]
  refine List.filter_congr fun k _=>Bool.and_comm ..
 rw [this]
 exact zD _ _
def noE(L:List Oper)(es:List Bool)(i:Nat)(s:List Nat):Bool:=
 s.contains i||(Fm es).any fun k=>if s.contains k then oP L L.length k i||(Fm es).any fun j=> !s.contains j&&oP L L.length k j else oP L L.length i k
def Qx(L:List Oper)(es:List Bool)(i:Nat)(aas:List (List Nat)):Bool:=(Ix (Fm es)).all fun s=>noE L es i s||aas.any fun a=>Zi a s
def MB{α:Type}(p:α->Prop):List α->Prop
 |[]=>True
 |a::l=>p a/\MB p l
def MB.mem{p:α->Prop}: ∀{l:List α},MB p l-> ∀a∈l,p a
 |_::_,⟨h,_⟩,_,.head _=>h
 |_::_,⟨_,h⟩,_,.tail _ hm=>MB.mem h _ hm
abbrev Zu:=List (List Nat×((Nat->OI)->List OE))
def DT(E:En)(G:mK)(L:List Oper)(ts:List TS)(Ss:Zu)(es0:List Bool):Nat->List Oper->List Bool->Prop
 |_,[],_=>True
 |i,o::rest,false::es=>(∃(needs:List NS) (t:TS) (aas:List (List Nat)),ts[i]? =some t/\yS G ts needs/\(needs.all fun n=>qP L o i (n.at fun _=>oF))=true/\fx i o=true/\RD L es0 i t=true/\Qx L es0 i aas=true/\o.dst.isSome=true/\
   MB (fun s=> ∀σ,bo E (R6 Ss s σ) L.toArray (yJ needs σ) o (t.at σ)) aas)/\DT E G L ts Ss es0 (i+1) rest es
 |i,o::rest,true::es=>(∃(needs:List NS) (t:TS) (aas:List (List Nat×List Nat)),ts[i]? =some t/\yS G ts needs/\(needs.all fun n=>qP L o i (n.at fun _=>oF))=true/\fx i o=true/\RD L es0 i t=true/\Qx L es0 i (aas.map (·.1))=true/\(aas.all fun p=>Zi (Vh es0 i p.1) p.2)=true/\
   MB (fun p:List Nat×List Nat=> ∀σ,ji E L.toArray (R6 Ss p.1 σ) (yJ needs σ) o (fun x=>R6 Ss p.2 (upd σ i x)) (fun x=>t.at (upd σ i x))) aas)/\DT E G L ts Ss es0 (i+1) rest es
 |_,_::_,[]=>False
def DT.get{ts:List TS}{Ss:Zu}{es0:List Bool}: ∀(r:List Oper) (es:List Bool) (k:Nat),DT E G L ts Ss es0 k r es-> ∀(j:Nat) (o:Oper),r[j]? =some o->
    ∃e,es[j]? =some e/\ ∃(needs:List NS) (t:TS),ts[k+j]? =some t/\yS G ts needs/\(needs.all fun n=>qP L o (k+j) (n.at fun _=>oF))=true/\fx (k+j) o=true/\RD L es0 (k+j) t=true/\
      (match e with
       |false=>o.dst.isSome=true/\ ∃aas,Qx L es0 (k+j) aas=true/\MB (fun s=> ∀σ,bo E (R6 Ss s σ) L.toArray (yJ needs σ) o (t.at σ)) aas
       |true=> ∃aas:List (List Nat×List Nat),Qx L es0 (k+j) (aas.map (·.1))=true/\(aas.all fun p=>Zi (Vh es0 (k+j) p.1) p.2)=true/\MB (fun p:List Nat×List Nat=> ∀σ,ji E L.toArray (R6 Ss p.1 σ) (yJ needs σ) o (fun x=>R6 Ss p.2 (upd σ (k+j) x)) (fun x=>t.at (upd σ (k+j) x))) aas):=by
  intro r
  induction r with
  |nil=>intro es k _ j o h;simp at h
  |cons p r ih=>
    intro es k h j o ho
    cases es with
    |nil=>exact h.elim
    |cons e es=>
      cases e with
      |false=>
        obtain⟨⟨needs,t,aas,g1,g2,g3,g4,g5,g6,g7,g8⟩,Z⟩:=h
        cases j with
        |zero=>
          simp at ho;subst ho
          exact⟨false,rfl,needs,t,g1,g2,g3,g4,g5,g7,aas,g6,g8⟩
        |succ j=>
          obtain⟨e',g1,g2⟩:=ih es (k+1) Z j o (by simpa using ho)
          refine⟨e',by simpa using g1,?_⟩
          rw [show k+1+j=k+(j+1)from by omega]at g2
          exact g2
      |true=>
        obtain⟨⟨needs,t,aas,g1,g2,g3,g4,g5,g6,g7,g8⟩,Z⟩:=h
        cases j with
        |zero=>
          simp at ho;subst ho
          exact⟨true,rfl,needs,t,g1,g2,g3,g4,g5,aas,g6,g7,g8⟩
        |succ j=>
          obtain⟨e',g1,g2⟩:=ih es (k+1) Z j o (by simpa using ho)
          refine⟨e',by simpa using g1,?_⟩
          rw [show k+1+j=k+(j+1)from by omega]at g2
          exact g2
structure XF(E:En)(G:mK)(l:List Oper)(ts:List TS)(Ss:Zu)(es:List Bool)(done:Array Bool)(a:Act)(w:World)(S:SH)(σ:Nat->OI):Prop where
 ext:lr E.B E.w0 E.S0 w S
 sat:mT w S
 own:dI E.base E.B w S (R6 Ss (Ib es done) σ)
 size:a.tmps.size=E.N.n
 defers:a.defers=E.N.ds
 dsz:done.size=l.length
 down: ∀j o,l[j]? =some o->done.getD j false=true-> ∀e∈o.after,Region.binds .any e=true->done.getD e.on false=true
 old: ∀k t,look G k=some t->(∀j o,l[j]? =some o->done.getD j false=true->o.dst≠some k)->t.p S (a.tmps.getD k undef)
 new: ∀j o aE p,l[j]? =some o->done.getD j false=true->o.dst=some aE->ts[j]? =some p->(p.at σ).p S (a.tmps.getD aE undef)
 deps: ∀j p,done.getD j false=true->ts[j]? =some p-> ∀k∈p.1,done.getD k false=true
section
variable{ts:List TS}{Ss:Zu}
def XF.need(h:XF E G L ts Ss es done a w S σ){i:Nat}(hi:L[i]? =some o)(hun:done.getD i true=false)(hwait: ∀e∈o.after,Region.binds .any e=true->done.getD e.on false=true){needs:List NS}(V:yS G ts needs)(Z:(needs.all fun n=>qP L o i (n.at fun _=>oF))=true):du E.N S a (yJ needs σ):=by
 have hlt:i<done.size:=by rw [h.dsz];exact(ui.1 hi).1
 have hun' :done.getD i false=false:=by
  simp [hlt]at hun ⊢;exact hun
 refine⟨h.size,h.defers,?_⟩
 have key: ∀n∈needs,(n.ty σ).p S (a.tmps.getD n.slot undef):=by
  intro n hn
  have hs:=pG.1 Z n hn
  have ho:=V.mem n hn
  unfold qP NS.at at hs
  unfold WN at ho
  cases hsrc:n.src with
  |some j=>
   rw [hsrc]at hs ho
   simp only [jR]at hs
   obtain⟨hs1,hs2⟩:=hs
   cases hj:L[j]? with
   |none=>rw [hj]at hs1;cases hs1
   |some p=>
    rw [hj]at hs1
    cases hd:p.dst with
    |none=>simp only [hd]at hs1;cases hs1
    |some aE=>
     simp only [hd]at hs1
     have hd' :=qL hs1
     subst hd'
     have hdone:done.getD j false=true:=by
      unfold EF at hs2
      obtain⟨e,he0,Y⟩:=EZ.1 hs2
      have he:e∈o.after:=by simpa using he0
      simp only [jR]at Y
      have:=hwait e he Y.2
      rwa [qL Y.1]at this
     have hm:=ho σ
     cases hf:ts[j]? with
     |none=>rw [hf]at hm;simp at hm
     |some f=>
      rw [hf]at hm
      have e:f.at σ=n.ty σ:=by simpa using hm
      rw [<-e]
      exact h.new j p n.slot f hj hdone hd hf
  |none=>
   rw [hsrc]at hs ho
   refine h.old _ _ (ho σ) fun j p hj hdone hd=>?_
   have:=pG.1 hs p (uk hj)
   simp only [hd,Nat.beq_refl,rn,Bi]at this
   unfold EF at this
   obtain⟨e,he0,Y⟩:=EZ.1 this
   have he:e∈p.after:=by simpa using he0
   simp only [jR]at Y
   have h3:=h.down j p hj hdone e he Y.2
   rw [qL Y.1]at h3
   rw [h3]at hun'
   cases hun'
 clear V Z
 intro k t hk
 unfold yJ at hk
 induction needs with
 |nil=>simp [kQ,look]at hk
 |cons n needs ih=>
  simp only [uG]at hk
  unfold kQ look at hk
  by_cases Y:Nat.beq n.slot k=true
  ·have hb' :Nat.beq (n.at σ).slot k=true:=Y
   rw [hb']at hk
   have:=qL Y
   subst this
   have h9:some (n.at σ).ty=some t:=by simpa using hk
   have e:n.ty σ=t:=ro h9
   rw [<-e]
   exact key n (oa ..)
  ·rw [Dv]at Y
   have hb' :Nat.beq (n.at σ).slot k=false:=Y
   rw [hb']at hk
   exact ih (fun m hm=>key m (oD _ hm)) hk
def XF.step{σ' :Nat->OI}(h:XF E G L ts Ss es done a w S σ){i:Nat}{p0:TS}{C:Nat->Prop}(hi:L[i]? =some o)(hdN: ∀aE,o.dst=some aE->aE<E.N.n)(hs2: ∀aE,o.dst=some aE-> ∀j p,L[j]? =some p->done.getD j false=true->p.dst=some aE->i=j)(hwait: ∀e∈o.after,Region.binds .any e=true->done.getD e.on false=true)(M:ts[i]? =some p0)(hun:done.getD i true=false)(hdep: ∀k∈p0.1,k=i\/done.getD k false=true)(hext:lr C w S w' S')(hC: ∀b,C b->E.base<=b\/E.B b)(hsat:mT w' S')(hown:dI E.base E.B w' S' (R6 Ss (Ib es (done.setIfInBounds i true)) σ'))(hσ: ∀k,k≠i->σ' k=σ k)(hv:(p0.at σ').p S' v):
  XF E G L ts Ss es (done.setIfInBounds i true) (a.put o.dst v) w' S' σ' :=by
 have hlt:i<done.size:=by rw [h.dsz];exact(ui.1 hi).1
 have hset: ∀j,(done.setIfInBounds i true).getD j false=true->j=i\/done.getD j false=true:=fun j hj=>by
  by_cases hij:i=j
  ·exact .inl hij.symm
  ·rw [yC false hij]at hj;exact .inr hj
 have hseti:(done.setIfInBounds i true).getD i false=true:=by simp [hlt]
 have hun' :done.getD i false=false:=by simp [hlt]at hun ⊢;exact hun
 have hput: ∀k,(∀aE,o.dst=some aE->aE≠k)->(a.put o.dst v).tmps.getD k undef=a.tmps.getD k undef:=fun k hk=>by
  cases hd:o.dst with
  |none=>rfl
  |some aE=>
   have hda:aE<a.tmps.size:=by rw [h.size];exact hdN aE hd
   rw [wh hda,cr (hk aE hd)]
 refine⟨h.ext.step hext hC,hsat,hown,?_,?_,by simp [h.dsz],fun j p hj hdone e he Y=>?_,fun k u hk hno=>?_,fun j p d' u hj hdone hd' hu=>?_,fun j u hj hu k hk=>?_⟩
 ·cases o.dst with
  |none=>exact h.size
  |some aE=>simp [Act.put,h.size]
 ·cases o.dst with
  |none=>exact h.defers
  |some aE=>exact h.defers
 ·rcases hset j hdone with rfl|hj'
  ·rw [hi]at hj
   have:o=p:=by simpa using hj
   subst this
   exact AF (hwait e he Y)
  ·exact AF (h.down j p hj hj' e he Y)
 ·rw [hput k fun aE hd e=>hno i o hi hseti (by rw [hd,e])]
  exact u.mono hext.keep (h.old k u hk fun j p hj hdone=>hno j p hj (AF hdone))
 ·by_cases hij:j=i
  ·subst hij
   rw [hi]at hj
   have:o=p:=by simpa using hj
   subst this
   have hda:d' <a.tmps.size:=by rw [h.size];exact hdN d' hd'
   rw [hd',wh hda,cz rfl]
   rw [M]at hu
   have:p0=u:=by simpa using hu
   subst this
   exact hv
  ·have hj' :=(hset j hdone).resolve_left hij
   rw [hput d' fun aE hd e=>by subst e;exact hij (hs2 aE hd j p hj hj' hd').symm]
   have e1:u.at σ' =u.at σ:=congrArg u.2 (List.map_congr_left fun k hk=>hσ k fun e=>by
     subst e
     rw [h.deps j u hj' hu k hk]at hun';cases hun')
   rw [e1]
   exact Ty.mono _ hext.keep (h.new j p d' u hj hj' hd' hu)
 ·rcases hset j hj with rfl|hj'
  ·rw [M]at hu
   have:p0=u:=by simpa using hu
   subst this
   rcases hdep k hk with rfl|h'
   ·exact hseti
   ·exact AF h'
  ·exact AF (h.deps j u hj' hu k hk)
end
def KL{l t:List Oper}{ts:List TS}{Ss:Zu}(hsl:zk E.N.n [] l=true)(hlen:ts.length=l.length)(hesl:es.length=l.length)(hd:DT E G (l++t) ts Ss es 0 l es)(M:A1 (l++t) l.length t.length=true)(hQ: ∀a w S σ,St E (R6 Ss (Fm es) σ) (Lw l (Ux ts σ) G) a w S->wpListIn (fw E.r) 0 E.P (l++t).toArray ah t a w):
  ∀(fuel:Nat) (done:Array Bool) (a:Act) (w:World) (S:SH) (σ:Nat->OI),mL done=fuel->(∀j,l.length<=j->done.getD j false=false)->XF E G (l++t) ts Ss es done a w S σ->wpAnyIn (fw E.r) 0 E.P .any (l++t).toArray ah fuel done a w:=by
 have hL1: ∀i o,i<l.length->(l++t)[i]? =some o->l[i]? =some o:=fun i o hi h=>by rwa [E0 hi]at h
 have hL2: ∀i o,l[i]? =some o->(l++t)[i]? =some o:=fun i o h=>by rw [E0 (ui.1 h).1];exact h
 have htail: ∀m o,l.length<=m->(l++t)[m]? =some o->yo (l++t) m=true/\fx m o=true:=fun m o hm ho=>by
  have hml:m<(l++t).length:=(ui.1 ho).1
  rw [pF]at hml
  unfold A1 at M
  have:=pG.1 M (m-l.length) (by simp;omega)
  rw [show l.length+(m-l.length)=m from by omega,ho]at this
  simp only [jR]at this
  exact⟨this.1,this.2.1⟩
 have hget:=fun i o (hi:l[i]? =some o)=>DT.get l es 0 hd i o hi
 have hedge: ∀i o,(l++t)[i]? =some o->fx i o=true:=fun i o hi=>by
  rcases oE i l.length with h|h
  ·obtain⟨_,_,_,_,_,_,_,h,_⟩:=hget i o (hL1 i o h hi)
   simpa using h
  ·exact(htail i o h hi).2
 obtain⟨hs1,hs2⟩:=EI l [] hsl
 have fin: ∀fuel done a w S σ,mL done=fuel->(∀j,l.length<=j->done.getD j false=false)->XF E G (l++t) ts Ss es done a w S σ->(∀i,i<l.length->done.getD i false=true)->wpAnyIn (fw E.r) 0 E.P .any (l++t).toArray ah fuel done a w:=by
  intro fuel done a w S σ hu hfree h hall
  have hdn:Ib es done=Fm es:=by
   unfold Ib Fm
   refine List.filter_congr fun k hk=>?_
   rw [hall k (by rw [<-hesl];exact List.mem_range.1 hk),Bool.and_true]
  have hown:=h.own
  rw [hdn]at hown
  refine Bs (n:=l.length) (fun m o hm ho=>(htail m o hm ho).1) hedge t l.length done fuel a w (gc _) (by simp) h.dsz (fun j hj=>⟨fun hjd=>?_,fun hlt=>hall j hlt⟩) hu
   (hQ a w S σ ⟨h.ext,h.sat,hown,h.size,h.defers,fun j u hj=>?_⟩)
  ·rcases oE j l.length with h' |h'
   ·exact h'
   ·rw [hfree j h']at hjd;cases hjd
  ·rcases IZ l (Ux ts σ) j u (by unfold Ux;rw [Ck];exact hlen) hj with⟨i,o,V,Z,h3⟩|⟨V,Z⟩
   ·unfold Ux at h3
    rw [Io]at h3
    cases hf:ts[i]? with
    |none=>rw [hf]at h3;simp at h3
    |some f=>
     rw [hf]at h3
     have e:f.at σ=u:=by simpa using h3
     rw [<-e]
     exact h.new i o j f (hL2 i o V) (hall i (ui.1 V).1) Z hf
   ·refine h.old j u V fun i o ho hdn=>?_
    rcases oE i l.length with h' |h'
    ·exact Z o (uk (hL1 i o h' ho))
    ·rw [hfree i h']at hdn;cases hdn
 have lower: ∀done a w S σ i,(∀j,l.length<=j->done.getD j false=false)->XF E G (l++t) ts Ss es done a w S σ->i∈Region.ready .any (l++t).toArray done->l.length<=i-> ∀j,j<l.length->done.getD j false=true:=by
  intro done a w S σ i hfree h hi hge j hj
  obtain⟨hun,p,hp,hwait⟩:=vm.1 hi
  have hp' :(l++t)[i]? =some p:=by simpa using hp
  have hcov:=(htail i p hge hp').1
  unfold yo at hcov
  have hre:=pG.1 hcov j (by simp;omega)
  exact hM h.down _ i j (fun q hq e he Y=>by
   have:q=p:=by rw [hp']at hq;simpa using hq.symm
   subst this
   exact hwait e he Y) hre
 intro fuel
 induction fuel with
 |zero=>
  intro done a w S σ hu hfree h
  exact fin 0 done a w S σ hu hfree h fun i hi=>v6 hu (by rw [h.dsz,pF];omega)
 |succ fuel ih=>
  intro done a w S σ hu hfree h
  by_cases hall: ∀i,i<l.length->done.getD i false=true
  ·exact fin _ done a w S σ hu hfree h hall
  have hready0: ∀m i,i<m->i<l.length->Region.ready .any (l++t).toArray done=[]->done.getD i false=true:=by
   intro m
   induction m with
   |zero=>intro i h;omega
   |succ m ihm=>
    intro i him hil hr
    have his:i<done.size:=by rw [h.dsz,pF];omega
    by_cases hdn:done.getD i true=true
    ·rw [<-pS his];exact hdn
    ·exfalso
     obtain⟨o,ho⟩: ∃o,(l++t)[i]? =some o:=⟨l[i],hL2 i _ (lP hil)⟩
     have hmem:i∈Region.ready .any (l++t).toArray done:=by
      rw [vm]
      refine⟨by simpa using hdn,o,by simpa using ho,fun e he Y=>?_⟩
      have:=hedge i o ho
      unfold fx at this
      have:=pG.1 this e (by simpa using he)
      simp only [Y,rn,Bi,tK]at this
      exact ihm e.on (by omega) (by omega) hr
     rw [hr]at hmem;cases hmem
  refine⟨fun hr=>absurd (fun i hi=>hready0 (i+1) i (by omega) hi hr) hall,fun i hi=>?_⟩
  have hil:i<l.length:=by
   rcases oE i l.length with h' |h'
   ·exact h'
   ·exact absurd (lower done a w S σ i hfree h hi h') hall
  obtain⟨hun,o,ho,hwait⟩:=vm.1 hi
  have ho' :(l++t)[i]? =some o:=by simpa using ho
  have hol:=hL1 i o hil ho'
  obtain⟨e,he,needs,u,V,Z,h3,_,h4,h5⟩:=hget i o hol
  rw [sB]at V h3 h4
  have hF:=h.need ho' hun hwait Z h3
  have his:i<done.size:=by rw [h.dsz,pF];omega
  have hun' :done.getD i false=false:=by rw [<-pS his];exact hun
  have hu' :mL (done.setIfInBounds i true)=fuel:=by have:=sI hun;omega
  have huq: ∀aE,o.dst=some aE-> ∀j p,(l++t)[j]? =some p->done.getD j false=true->p.dst=some aE->i=j:=fun aE hdd j p hj hjd hpd=>by
   rcases oE j l.length with h' |h'
   ·exact hs2 i j o p aE hol (hL1 j p h' hj) hdd hpd
   ·rw [hfree j h']at hjd;cases hjd
  have hfree' : ∀j,l.length<=j->(done.setIfInBounds i true).getD j false=false:=fun j hj=>by
   rw [yC false (by omega)];exact hfree j hj
  have hbl:E.base<=w.heap.size:=h.ext.size
  have hwaits: ∀q,(l++t)[i]? =some q-> ∀e∈q.after,Region.binds .any e=true->done.getD e.on false=true:=fun q hq e he Y=>by
   have:q=o:=by rw [ho']at hq;simpa using hq.symm
   subst this
   exact hwait e he Y
  have hdpp: ∀k∈u.1,k=i\/done.getD k false=true:=fun k hk=>by
   have:=pG.1 h4 k hk
   simp only [jR,y7]at this
   rcases this.2 with Y|Y
   ·exact .inl (qL Y)
   ·exact .inr (hM h.down _ i k hwaits Y)
  have hdNN: ∀aE,o.dst=some aE->aE<E.N.n:=fun aE hd=>(hs1 o (uk hol) aE hd).1
  unfold wpOpIn
  rw [ho]
  show if _ then _ else _
  -- just these effects stand
  have hpos:noE (l++t) es i (Ib es done)=false:=by
   rw [Ip]
   intro hno
   unfold noE at hno
   rw [y7]at hno
   rcases hno with hc|hc
   ·have:=(CU.1 (KI.1 hc)).2
    rw [this]at hun';cases hun'
   ·obtain⟨k,hk1,hk2⟩:=EZ.1 hc
    have hke:es[k]? =some true:=by
     unfold Fm at hk1
     rw [List.mem_filter,List.mem_range]at hk1
     have h7:=hk1.2
     rw [lP hk1.1]at h7 ⊢
     simpa using h7
    by_cases hin:(Ib es done).contains k=true
    ·rw [cz hin,y7]at hk2
     have hkd:=(CU.1 (KI.1 hin)).2
     rcases hk2 with Y|Y
     ·have:=hM h.down _ k i (fun q hq e he Y=>h.down k q hq hkd e he Y) Y
      rw [this]at hun';cases hun'
     ·obtain⟨j,hj1,hj2⟩:=EZ.1 Y
      rw [jR,AI]at hj2
      have hje:es[j]? =some true:=by
       unfold Fm at hj1
       rw [List.mem_filter,List.mem_range]at hj1
       have h7:=hj1.2
       rw [lP hj1.1]at h7 ⊢
       simpa using h7
      have hjd:=hM h.down _ k j (fun q hq e he Y=>h.down k q hq hkd e he Y) hj2.2
      have:=KI.2 (CU.2 ⟨hje,hjd⟩)
      rw [hj2.1]at this;cases this
    ·rw [cr hin]at hk2
     have hkd:=hM h.down _ i k hwaits hk2
     exact hin (KI.2 (CU.2 ⟨hke,hkd⟩))
  have hwin: ∀aas:List (List Nat),Qx (l++t) es i aas=true->Ib es done∈aas:=by
   intro aas hw
   unfold Qx at hw
   have:=pG.1 hw _ (TO es done)
   rw [hpos,Bi]at this
   obtain⟨b,hb1,hb2⟩:=EZ.1 this
   rw [<-NZ hb2];exact hb1
  cases e with
  |false=>
   simp only at h5
   obtain⟨hdS,aas,hw,h5⟩:=h5
   rw [sB]at hw
   obtain⟨aE,hdd⟩:=Option.isSome_iff_exists.1 hdS
   have h6:=h5.mem _ (hwin aas hw) σ a w S h.sat h.own hF
   have hdq:=RC (done:=done) he
   by_cases hw:Region.wanted o (yielded (l++t).toArray a.tmps)=true
   ·rw [cz hw]at h6 ⊢
    refine mB (fun a' w' ⟨v,S',ha,A,hs,hv⟩=>?_) h6
    subst ha
    exact ih _ _ _ S' _ hu' hfree' (h.step ho' hdNN huq hwait V hun hdpp A (fun _ Y=>Y.elim) hs (by rw [hdq];exact h.own.ext0 A) (fun _ _=>rfl) hv)
   ·rw [cr hw]at h6 ⊢
    exact⟨fun _ _=>trivial,ih _ _ _ S _ hu' hfree' (h.step ho' hdNN huq hwait V hun hdpp (lr.refl wm _ _) (fun _ Y=>Y.elim) h.sat (by rw [hdq];exact h.own) (fun _ _=>rfl) h6)⟩
  |true=>
   simp only [sB]at h5
   obtain⟨aas,hw,hins,h5⟩:=h5
   obtain⟨p,hp1,hp2⟩:=vX.1 (hwin _ hw)
   have hp3:=NZ (pG.1 hins p hp1)
   have h6:=h5.mem p hp1 σ a w S h.sat (by rw [hp2];exact h.own) hF hbl
   have hdq:Ib es (done.setIfInBounds i true)=p.2:=by rw [Wx he his,<-hp2,hp3]
   by_cases hw:Region.wanted o (yielded (l++t).toArray a.tmps)=true
   ·rw [cz hw]at h6 ⊢
    refine mB (fun a' w' ⟨v,S',x,ha,A,hs,hown,hv⟩=>?_) h6
    subst ha
    exact ih _ _ _ S' _ hu' hfree' (h.step ho' hdNN huq hwait V hun hdpp A (fun b ⟨f,hf,Y⟩=>(dI.mem h.own f (by rw [<-hp2];exact hf)).2 b Y) hs (by rw [hdq];exact hown) (fun k hk=>JB σ x hk) hv)
   ·rw [cr hw]at h6 ⊢
    obtain⟨x,hown,hv⟩:=h6
    exact⟨fun _ _=>trivial,ih _ _ _ S _ hu' hfree' (h.step ho' hdNN huq hwait V hun hdpp (lr.refl wm _ _) (fun _ Y=>Y.elim) h.sat (by rw [hdq];exact hown) (fun k hk=>JB σ x hk) hv)⟩
def MA{id:Nat}(m:Nat)(ts:List TS)(es:List Bool)(Ss:Zu)(hO: ∀σ,R6 Ss [] σ=O)(hm:E.P.follows .mixedOrders=true)(hsl:zk E.N.n [] (L.take m)=true)(hlen:ts.length=(L.take m).length)(hesl:es.length=(L.take m).length)(M:A1 L (L.take m).length (L.drop m).length=true)(hd:DT E G L ts Ss es 0 (L.take m) es)(k: ∀σ:Nat->OI,RG E L.toArray ah (L.drop m) (R6 Ss (Fm es) σ) (Lw (L.take m) (Ux ts σ) G)):CG E ah (.region id L.toArray true) O G:=fun a w S st=>by
 have hL:L=L.take m++L.drop m:=(uH m L).symm
 generalize L.take m=l at hL hsl hlen hesl M hd k
 generalize L.drop m=t at hL M k
 subst hL
 refine wpIn_region_any hm ?_
 obtain⟨he,hs⟩:=Dt (w:=w) st.sat
 have hdn0:Ib es (Array.replicate (l++t).toArray.size false)=[]:=by
  unfold Ib
  refine List.filter_eq_nil_iff.2 fun k hk=>?_
  simp [Bp]
  intro _
  split<;>simp
 refine KL hsl hlen hesl hd M (fun a w S σ st=>k σ a w S st) _ _ _ _ S (fun _=>oF) ?_ (fun j _=>?_)
  ⟨st.ext.step0 he,hs,by rw [hdn0,hO];exact st.own.ext0 he,st.facts.size,st.facts.defers,by simp,fun j o hj hdone=>?_,fun k t hk _=>st.facts.at_ k t hk,fun j o aE t hj hdone=>?_,fun j p hdone=>?_⟩
 ·unfold mL;rw [OK,OC];simp
 ·simp [Bp];split<;>rfl
 ·simp [Bp]at hdone
  split at hdone<;>simp at hdone
 ·simp [Bp]at hdone
  split at hdone<;>simp at hdone
 ·simp [Bp]at hdone
  split at hdone<;>simp at hdone

def dI.perm(h:O.Perm O'):dI base B w S O->dI base B w S O' :=by
 induction h with
 |nil=>exact id
 |cons x p ih=>
  rintro⟨V,Z,h3⟩
  exact⟨V,fun f hf=>Z f (p.mem_iff.2 hf),ih h3⟩
 |swap x y l=>
  rintro⟨V,Z,h3,h4,h5⟩
  refine⟨h3,fun f hf k hk hfk=>?_,V,fun f hf=>Z f (oD _ hf),h5⟩
  rcases gw.1 hf with rfl|hf
  ·exact Z x (oa ..) k hfk hk
  ·exact h4 f hf k hk hfk
 |trans _ _ ih1 ih2=>exact fun k=>ih2 (ih1 k)
def wi(O:List OE):List Nat->List OE
 |[]=>[]
 |i::l=>match O[i]? with
  |some e=>e::wi O l
  |none=>wi O l
def CR(O:List OE): ∀a b:List Nat,wi O (a++b)=wi O a++wi O b
 |[],_=>rfl
 |i::a,b=>by
  simp only [yU,wi]
  split<;>simp [CR O a b]
def Nn{a b:List Nat}(h:a.Perm b):(wi O a).Perm (wi O b):=by
 induction h with
 |nil=>exact .nil
 |cons x p ih=>
  simp only [wi]
  split
  ·exact .cons _ ih
  ·exact ih
 |swap x y l=>
  simp only [wi]
  cases A:O[x]? <;>cases hy:O[y]? <;>simp<;>exact .swap ..
 |trans _ _ ih1 ih2=>exact ih1.trans ih2
def Lr(O:List OE):wi O (List.range O.length)=O:=by
 have key: ∀n,n<=O.length->wi O (List.range n)=O.take n:=by
  intro n
  induction n with
  |zero=>intro _;rfl
  |succ n ih=>
   intro h
   rw [List.range_succ,CR,ih (by omega)]
   simp only [wi]
   rw [lP (by omega),MF (by omega)]
 rw [key _ (gc _),AU]
def dI.pick(l:List Nat)(hl:l.isPerm (List.range O.length)=true)(h:dI base B w S O):dI base B w S (wi O l):=
 h.perm (by
  have:=Nn (O:=O) (List.isPerm_iff.1 hl)
  rw [Lr]at this
  exact this.symm)

section
section
variable{ty:TypeId}
end
def uX{ty:TypeId}{l:Option Nat}{o:Nat}(hm:mj mm r U l cap xs∈O)(hy:fB xs j=some y)(hp:bf E.N G p (tV (dS l o))):
  cE E O G ⟨dst,.nilCheck p,ty,pos,after,g⟩ (tV (dS l o)):=
 .of_pure fun a w S _ ho hF=>by
  have V:a.eval p=dS l o:=hp S a hF
  obtain⟨_,hy'⟩:=kG hy
  obtain⟨b,cur,rfl,_⟩:=rM (ho.mem _ hm).1 hy'
  exact⟨dS (some b) o,by simp [execOp,V,dS,an],rfl⟩
end
open Go.ChangeShapes Go.WideShapes Go.ChangeAt

variable{tD:Type}{W:World}{enc:TypeId×Value->tD}
section
def LD(W:World):SH:=fun b=>W.heap[b]?
def X5(W:World)(D: ∀p∈glob,∃c T fr,W.heap[p.1]? =some (.cells c T fr)/\c.toList.take p.2.length=p.2)(M: ∀w' :World,(∀(b:Nat) (o:Obj),W.heap[b]? =some o-> ∃o',w'.heap[b]? =some o' /\HT o o')->QE w'):mT W (LD W):=⟨fun _ o h=>⟨o,h,xh o⟩,D,M⟩
def yQ(enc:TypeId×Value->tD)(P:Program)(W:World){α:Type}(t:TypeId)(r:Rp α):Prop:=
 P.cellsOf t=r.sz/\ ∀fuel cs x,DataW.trod enc P W 0 (fun _=>true) true fuel t cs=some x-> ∃y,r.rc (LD W) cs y
def Sk(h:P.underlying t=some .bool)(hc:P.cellsOf t=1):yQ enc P W t rB:=⟨hc,fun fuel cs x A=>by
 cases fuel with
 |zero=>simp [DataW.trod]at A
 |succ n=>
  unfold DataW.trod at A
  rw [h]at A
  split at A
  all_goals try (injections;done)
  ·exact⟨_,rfl⟩⟩
def xk{α β:Type}{f:α->Option β}: ∀{l:List α} {r:List β},l.mapM f=some r->r.length=l.length/\ ∀(i:Nat) (x:α),l[i]? =some x-> ∃y,r[i]? =some y/\f x=some y
 |[],r,h=>by
  simp at h
  subst h
  exact⟨rfl,fun i x A=>by simp at A⟩
 |a::l,r,h=>by
  rw [List.mapM_cons]at h
  cases hf:f a with
  |none=>rw [hf]at h;simp at h
  |some b=>
   rw [hf]at h
   cases hm:l.mapM f with
   |none=>rw [hm]at h;simp at h
   |some r' =>
    rw [hm]at h
    simp at h
    subst h
    obtain⟨V,Z⟩:=xk hm
    refine⟨by simp [V],fun i x A=>?_⟩
    cases i with
    |zero=>simp at A;subst A;exact⟨b,rfl,hf⟩
    |succ i=>exact Z i x (by simpa using A)
def El{a:Addr}(h:W.cell? a=some v):a.spot=none/\ ∃c E fr,W.heap[a.block]? =some (.cells c E fr)/\c[a.off]? =some v:=by
 unfold World.cell? at h
 cases ho:W.heap[a.block]? with
 |none=>rw [ho]at h;cases h
 |some o=>
  rw [ho]at h
  cases o with
  |cells c E fr=>
   simp only at h
   by_cases hs:a.spot.isSome=true
   ·rw [cz hs]at h;cases h
   ·rw [cr hs]at h
    exact⟨by cases hq:a.spot with
     |none=>rfl
     |some s=>rw [hq]at hs;simp at hs,c,E,fr,rfl,h⟩
  |_=>simp at h
def Jj(a:Addr):a.add 0=a:=by unfold Addr.add;rfl
def Oe(h:W.cells? 0 ⟨b,off,none⟩ n=some cs)(hn:0<n): ∃c E fr,W.heap[b]? =some (.cells c E fr)/\cs=(c.toList.drop off).take n:=by
 unfold World.cells? at h
 rw [cz (jW _)]at h
 obtain⟨V,Z⟩:=xk h
 obtain⟨v,_,hv⟩:=Z 0 0 (by simp [hn])
 obtain⟨_,c,E,fr,h3,h4⟩:=El hv
 refine⟨c,E,fr,by simpa [Addr.add] using h3,?_⟩
 apply KE
 intro i
 have hl:cs.length=n:=by simpa using V
 by_cases hi:i<n
 ·obtain⟨v,h5,h6⟩:=Z i i (by simp [hi])
  obtain⟨_,c',E',fr',h7,h8⟩:=El h6
  rw [jD]at h7 h8
  have h7' :W.heap[b]? =some (.cells c' E' fr'):=h7
  have h3' :W.heap[b]? =some (.cells c E fr):=by simpa [Addr.add] using h3
  rw [h3']at h7'
  injection h7' with h7'
  injection h7' with e1
  subst e1
  rw [h5,Dw hi,yX]
  simpa using h8.symm
 ·rw [Is (by omega),Is (by simp;omega)]
def QC{q:Rp α}{len:Nat}{a:Addr}{x:DataW tD×List MemPlace}(h0' :0<q.sz)(hq:yQ enc P W e q)(A:(let elemAt (i:Nat):Option (DataW tD×List MemPlace):=(W.cells? 0 (a.add (i*P.cellsOf e)) (P.cellsOf e)).bind (DataW.trod enc P W 0 (fun _=>true) true n e)
   if 0<=a.block/\len<=cap/\cap<=maxLen then
    ((List.range len).mapM elemAt).bind fun elems=>
     (if(fun _=>true) a.block then(List.range (cap-len)).mapM fun j=>elemAt (len+j)else some []).map fun rest=>
      (DataW.slice (elems.map (·.1)) (rest.map (·.1)),MemPlace.row a ((elems.length+rest.length)*P.cellsOf e)++(elems++rest).flatMap (·.2))
   else none)=some x): ∃y,(eO q).rc (LD W) [.slice (some a) len cap] y:=by
 simp only at A
 split at A
 ·rename_i hcond
  obtain⟨_,hle,hmax⟩:=hcond
  cases hm:(List.range len).mapM (fun i=>(W.cells? 0 (a.add (i*P.cellsOf e)) (P.cellsOf e)).bind (DataW.trod enc P W 0 (fun _=>true) true n e))with
  |none=>rw [hm]at A;simp at A
  |some elems=>
   obtain⟨hm1,hm2⟩:=xk hm
   rw [hq.1]at hm2
   by_cases hl0:len=0
   ·subst hl0;exact⟨[],some a,cap,rfl,jW _,hmax,.inl rfl⟩
   have hsp0:a.spot=none:=by
    obtain⟨z,_,hz⟩:=hm2 0 0 (by rw [List.getElem?_range (by omega)])
    rw [Nat.zero_mul,Jj]at hz
    cases hcs:W.cells? 0 a q.sz with
    |none=>rw [hcs]at hz;simp at hz
    |some cs1=>
     unfold World.cells? at hcs
     rw [cz (jW _)]at hcs
     obtain⟨_,g2⟩:=xk hcs
     obtain⟨v,_,hv⟩:=g2 0 0 (by simp [h0'])
     rw [Jj]at hv
     exact(El hv).1
   have hcell: ∀i,i<len-> ∃c E fr,a.spot=none/\W.heap[a.block]? =some (.cells c E fr)/\ ∃y,q.rc (LD W) ((c.toList.drop (a.off+i*q.sz)).take q.sz) y:=by
    intro i hi
    obtain⟨z,_,hz⟩:=hm2 i i (by simp [hi])
    cases hcs:W.cells? 0 (a.add (i*q.sz)) q.sz with
    |none=>rw [hcs]at hz;simp at hz
    |some cs1=>
     rw [hcs]at hz
     have hsp:a.spot=none:=hsp0
     obtain⟨ab,ao,az⟩:=a
     simp only at hsp
     subst hsp
     rw [jD]at hcs
     obtain⟨c,E,fr,g1,g2⟩:=Oe hcs h0'
     obtain⟨y,hy⟩:=hq.2 n cs1 z hz
     exact⟨c,E,fr,rfl,g1,y,by rw [<-g2];exact hy⟩
   obtain⟨c,E,fr,hsp,Y,_⟩:=hcell 0 (by omega)
   have key: ∀m,m<=len-> ∃ys:List α,ys.length=m/\uh q (LD W) ((c.toList.drop a.off).take (m*q.sz)) ys:=by
    intro m
    induction m with
    |zero=>intro _;exact⟨[],rfl,by simp [uh]⟩
    |succ m ih=>
     intro hm'
     obtain⟨ys,hy1,hy2⟩:=ih (by omega)
     obtain⟨c',E',fr',_,hb',y,hy⟩:=hcell m (by omega)
     rw [Y]at hb'
     injection hb' with hb'
     injection hb' with e1
     subst e1
     refine⟨ys++[y],by simp [hy1],?_⟩
     have hsplit:(c.toList.drop a.off).take ((m+1)*q.sz)=(c.toList.drop a.off).take (m*q.sz)++(c.toList.drop (a.off+m*q.sz)).take q.sz:=by
      rw [AE,Nat.one_mul,List.take_add,xH]
     rw [hsplit]
     exact vx hy2 (Nl.2 hy)
   obtain⟨ys,hy1,hy2⟩:=key len (gc _)
   obtain⟨ab,ao,az⟩:=a
   simp only at hsp
   subst hsp
   exact⟨ys,some ⟨ab,ao,none⟩,cap,by rw [hy1],by omega,hmax,.inr ⟨ab,ao,c,E,fr,rfl,Y,by rw [hy1];exact hy2⟩⟩
 ·cases A
def pH{q:Rp α}(h:P.underlying t=some (.slice e))(hc:P.cellsOf t=1)(h0:Nat.blt 0 q.sz=true)(hq:yQ enc P W e q):yQ enc P W t (eO q):=⟨hc,fun fuel cs x A=>by
 have h0' :0<q.sz:=by simpa [tK] using h0
 cases fuel with
 |zero=>simp [DataW.trod]at A
 |succ n=>
  unfold DataW.trod at A
  rw [h]at A
  split at A
  all_goals try (injections;done)
  ·exact⟨[],none,0,rfl,gc _,jW _,.inl rfl⟩
  ·rename_i e' a len cap heq
   injection heq with e1
   injection e1 with e1
   subst e1
   exact QC h0' hq A⟩
def WO(enc:TypeId×Value->tD)(P:Program)(W:World){α:Type}(off:Nat)(l:List (TypeId×Nat))(r:Rp α):Prop:=
 ∀(fuel:Nat) (cs:List Value),cs.length=off+r.sz->(∀f∈l,∃x,DataW.trod enc P W 0 (fun _=>true) true fuel f.1 ((cs.drop f.2).take (P.cellsOf f.1))=some x)-> ∃y,r.rc (LD W) (cs.drop off) y
def ni{t:Nat}(h:yQ enc P W t r):WO enc P W off [(t,off)] r:=fun fuel cs hl A=>by
 obtain⟨x,A⟩:=A _ (OL _)
 simp only at A
 rw [h.1,rt (by simp;omega)]at A
 exact h.2 _ _ _ A
def eF{p:Rp α}{t off' :Nat}{l:List (TypeId×Nat)}(h:yQ enc P W t p)(ho:off' =off+p.sz)(hr:WO enc P W off' l q):WO enc P W off ((t,off)::l) (ck p q):=fun fuel cs hl A=>by
 subst ho
 obtain⟨x,hx1⟩:=A _ (oa ..)
 simp only at hx1
 rw [h.1]at hx1
 obtain⟨y,hy⟩:=h.2 _ _ _ hx1
 obtain⟨z,hz⟩:=hr fuel cs (by rw [hl];show off+(p.sz+q.sz)=_;omega) fun f hf=>A f (oD _ hf)
 exact⟨(y,z),_,_,by rw [<-xH];exact(uH _ _).symm,hy,hz⟩
def kb{l:List (TypeId×Nat)}{p:Rp α}{f:β->α}(M:(P.underlying t).map (fun aE=>match aE with| .struct l=>(true,l.toList.map fun f=>(f.type,f.offset))|_=>(false,[]))=some (true,l))(hc:P.cellsOf t=p.sz)(hf: ∀y,∃x,f x=y)(hl:WO enc P W 0 l p):yQ enc P W t (kp p f):=⟨hc,fun fuel cs x A=>by
 obtain⟨fs,V,Z⟩: ∃fs,P.underlying t=some (.struct fs)/\fs.toList.map (fun f=>(f.type,f.offset))=l:=by
  cases hu:P.underlying t with
  |none=>rw [hu]at M;cases M
  |some aE=>
   rw [hu]at M
   cases aE<;>simp at M
   exact⟨_,rfl,M⟩
 cases fuel with
 |zero=>simp [DataW.trod]at A
 |succ n=>
  unfold DataW.trod at A
  rw [V]at A
  change (if cs.length=P.cellsOf t then(fs.toList.mapM fun f=>DataW.trod enc P W 0 (fun _=>true) true n f.type ((cs.drop f.offset).take (P.cellsOf f.type))).map (fun xs=>(DataW.agg (xs.map (·.1)),xs.flatMap (·.2)))else none)=some x at A
  split at A
  ·rename_i hlen
   cases hm:fs.toList.mapM (fun f=>DataW.trod enc P W 0 (fun _=>true) true n f.type ((cs.drop f.offset).take (P.cellsOf f.type)))with
   |none=>rw [hm]at A;simp at A
   |some r=>
    obtain⟨_,hm2⟩:=xk hm
    obtain⟨y,hy⟩:=hl n cs (by rw [hlen,hc];omega) (fun g D=>by
     rw [<-Z,vX]at D
     obtain⟨f0,hf0,rfl⟩:=D
     obtain⟨i,hi⟩:=List.getElem?_of_mem hf0
     obtain⟨z,_,hz⟩:=hm2 i f0 hi
     exact⟨z,hz⟩)
    obtain⟨x',hx'⟩:=hf y
    refine⟨x',?_⟩
    show p.rc _ cs (f x')
    rw [hx']
    simpa using hy
  ·cases A⟩
def Kp{W' :World}(h:lr wm W S W' S'):Below W.heap.size W W' :=⟨h.os,h.tape,h.output,h.size,fun k hk=>h.heap k hk (fun h=>h)⟩
def AX(hl:laidOutB P=true){W W' :World}(Y:Below W.heap.size W W'){sp:Nat->Bool}: ∀{ts:List TypeId} {vs:List Value} {ds:List (DataW tD)} {ps:List MemPlace},(∀t∈ts,P.readableRec t=true/\t<P.types.size)->
  DataW.TrodAll enc P W 0 (fun _=>true) true ts vs ds ps->(∀p∈ps,p.block<W.heap.size)->(∀p∈ps,sp p.block=true)->DataW.TrodAll enc P W' 0 sp true ts vs ds ps
 |[],[],[],_,_,h,_,_=>h
 |t::ts,v::vs,aE::ds,_,hr,⟨p,q,V,Z,e⟩,hlt,hsp=>by
  subst e
  have M:=hr t (oa ..)
  exact⟨p,q,WideElems.Trod_stays hl M.1 M.2 V (fun x A=>Y.same (hlt x (HV _ A))) (fun x A=>hsp x (HV _ A)),
   AX hl Y (fun t M=>hr t (oD _ M)) Z (fun x A=>hlt x (OD _ A)) (fun x A=>hsp x (OD _ A)),rfl⟩
def SY{f:Func}{s:ChangeSpec}{apart fresh handsOn again:Bool}{W' :World}{args:Array Value}{ds gs:List (DataW tD)}{before:List MemPlace}{tb:TypeId}(hl:laidOutB P=true)(hr: ∀t∈f.params.toList,P.readableRec t=true/\t<P.types.size)(hvs:s.vars=[])(hres:f.resultTypes= #[tb])(htb:P.underlying tb=some .bool)(hW:DataW.Whole enc P f.params.toList s.vars apart W args.toList ds gs before)(hs:s.fn tD (ds++gs)={results:=[.lit (.bool true)],args:=ds})(Y:Below W.heap.size W W'):
  s.post enc P f apart fresh handsOn again W args (.bool true) W' :=by
 have hW0:=hW
 have hlt:=hW.lt
 obtain⟨pa,pv,hA,hV,rfl,hz,hn⟩:=hW
 rw [hvs]at hV
 have hpv:pv=[]:=by
  cases gs with
  |nil=>exact hV
  |cons g gs=>exact hV.elim
 subst hpv
 have hlt' : ∀p∈pa,p.block<W.heap.size:=fun p hp=>hlt p (by simpa using hp)
 have hargs: ∀sp:Nat->Bool,(∀p∈pa,sp p.block=true)->DataW.TrodAll enc P W' 0 sp true f.params.toList args.toList ds pa:=fun sp hsp=>AX hl Y hr hA hlt' hsp
 have hresT: ∀(b:Nat) (sp:Nat->Bool) (hd:Bool),DataW.TrodAll enc P W' b sp hd f.resultTypes.toList ((Value.bool true).resultList f.resultTypes.size) [.lit (.bool true)] []:=fun b sp hd=>by
  rw [hres]
  exact⟨[],[],⟨1,by simp [DataW.trod,htb,Value.cells]⟩,rfl,rfl⟩
 have hvT: ∀sp:Nat->Bool,DataW.TrodVars enc P W' sp s.vars (s.fn tD (ds++gs)).vars []:=fun sp=>by
  rw [hvs,hs];rfl
 have hargs' : ∀sp:Nat->Bool,(∀p∈pa,sp p.block=true)->DataW.TrodAll enc P W' 0 sp true f.params.toList args.toList (s.fn tD (ds++gs)).args pa:=fun sp hsp=>by rw [hs];exact hargs sp hsp
 have hres' : ∀(b:Nat) (sp:Nat->Bool) (hd:Bool),DataW.TrodAll enc P W' b sp hd f.resultTypes.toList ((Value.bool true).resultList f.resultTypes.size) (s.fn tD (ds++gs)).results []:=fun b sp hd=>by rw [hs];exact hresT b sp hd
 have hold: ∀p∈pa,(fun b=>decide (b<W.heap.size)) p.block=true:=fun p hp=>by simpa using hlt' p hp
 refine⟨ds,gs,pa++[],[],pa,[],hW0,hres' _ _ _,hargs' _ hold,hvT _,World.keptBut_mono (fun p hp=>⟨hp,?_⟩) (Y.frame _),fun _=>?_⟩
 ·right;simpa using hp
 ·refine⟨?_,_,_,([]++pa)++[],⟨[]++pa,[],trodAll_append (hargs' _ (fun _ _=>rfl)) (hres' _ _ _),hvT _,rfl,?_,?_⟩,?_⟩
  ·intro j t r V Z
   rw [hres]at V Z
   cases j with
   |zero=>
    simp [Value.resultList]at V Z
    subst V Z
    simp [Value.okWide,htb,Cell.okWide,Cell.ok]
   |succ j=>simp at V
  ·intro b off hp
   have hp' :MemPlace.cell b off∈pa:=by simpa using hp
   have:=hlt' _ hp'
   rw [Y.frozen (p:=⟨b,off,none⟩) this]
   exact hz b off (by simpa using hp')
  ·intro ha
   have:=hn ha
   simpa using this
  ·intro p hp _
   simpa using hp
end

section
def zx{α:Type}(r:Rp α)(ok:α->Prop):Rp α where
 sz:=r.sz
 agg:=r.agg
 rc:=fun S cs x=>r.rc S cs x/\ok x
 mono:=fun h k=>⟨r.mono h k.1,k.2⟩
 len:=fun k=>r.len k.1
 one:=fun k=>r.one k.1
 sc:=r.sc
def Fh(k:IntKind)(n:Int):Prop:=k.min<=n/\n<=k.max
def FF(s:cS):Prop:=s.length<=maxLen
def UD{α:Type}(ok:α->Prop)(xs:List α):Prop:=xs.length<=maxLen/\ ∀x∈xs,ok x
def UC{α:Type}(_:α):Prop:=True
def Gb(h:P.underlying t=some (.int k))(hc:P.cellsOf t=1):yQ enc P W t (zx (rI k) (Fh k)):=⟨hc,fun fuel cs x A=>by
 cases fuel with
 |zero=>simp [DataW.trod]at A
 |succ n=>
  unfold DataW.trod at A
  rw [h]at A
  split at A
  all_goals try (injections;done)
  ·rename_i k1 k2 m heq
   injection heq with e
   injection e with e
   subst e
   split at A
   ·rename_i Z
    obtain⟨rfl,h3⟩:=Z
    simp only [Lit.wf,jR,nE]at h3
    exact⟨m,rfl,h3⟩
   ·cases A⟩
def Sj(h:P.underlying t=some .string)(hc:P.cellsOf t=1):yQ enc P W t (zx rS FF):=⟨hc,fun fuel cs x A=>by
 cases fuel with
 |zero=>simp [DataW.trod]at A
 |succ n=>
  unfold DataW.trod at A
  rw [h]at A
  split at A
  all_goals try (injections;done)
  ·rename_i s heq
   split at A
   ·rename_i Z;exact⟨s.data.toList,rfl,(show s.data.toList.length<=maxLen from(show s.size=s.data.toList.length from rfl)▸Z)⟩
   ·cases A⟩
def QD(h:P.underlying t=some .bool)(hc:P.cellsOf t=1):yQ enc P W t (zx rB UC):=
 ⟨hc,fun fuel cs x A=>by obtain⟨y,hy⟩:=(Sk (enc:=enc) (W:=W) h hc).2 fuel cs x A;exact⟨y,hy,trivial⟩⟩
def HE{α:Type}(r' r:Rp α)(ok:α->Prop):Prop:=r'.sz=r.sz/\r'.agg=r.agg/\ ∀S cs x,r'.rc S cs x->r.rc S cs x/\ok x
def kZ:HE (zx r ok) r ok:=⟨rfl,rfl,fun _ _ _ h=>h⟩
def O6{α:Type}{r' r:Rp α}{ok:α->Prop}(h:HE r' r ok){S:SH}: ∀{xs:List α} {cs:List Value},uh r' S cs xs->uh r S cs xs/\ ∀x∈xs,ok x
 |[],_,k=>⟨k,fun x A=>by cases A⟩
 |x::xs,_,⟨a,b,e,V,Z⟩=>by
  obtain⟨g1,g2⟩:=h.2.2 _ _ _ V
  obtain⟨g3,g4⟩:=O6 h Z
  exact⟨⟨a,b,e,g1,g3⟩,fun y hy=>by
   rcases gw.1 hy with rfl|hy
   ·exact g2
   ·exact g4 y hy⟩
def xQ{r' :Rp α}(h:HE r' r ok):HE (eO r') (eO r) (UD ok):=⟨rfl,rfl,fun S cs xs ⟨a,cap,e,V,Z,h3⟩=>by
 rcases h3 with h3|⟨b,off,c,E,fr,e1,e2,e3⟩
 ·exact⟨⟨a,cap,e,V,Z,.inl h3⟩,by omega,fun x A=>by rw [h3]at A;cases A⟩
 ·rw [h.1]at e3
  obtain⟨g1,g2⟩:=O6 h e3
  exact⟨⟨a,cap,e,V,Z,.inr ⟨b,off,c,E,fr,e1,e2,g1⟩⟩,by omega,g2⟩⟩
def fD{p' p:Rp α}{q' :Rp β}{f:α->Prop}{g:β->Prop}(h:HE p' p f)(k:HE q' q g):HE (ck p' q') (ck p q) (fun x=>f x.1/\g x.2):=
 ⟨by show p'.sz+q'.sz=p.sz+q.sz;rw [h.1,k.1],rfl,fun S cs x ⟨a,b,e,V,Z⟩=>⟨⟨a,b,e,(h.2.2 _ _ _ V).1,(k.2.2 _ _ _ Z).1⟩,(h.2.2 _ _ _ V).2,(k.2.2 _ _ _ Z).2⟩⟩
def pI{p' p:Rp α}{f:β->α}(h:HE p' p ok):HE (kp p' f) (kp p f) (fun x=>ok (f x)):=
 ⟨h.1,rfl,fun S cs x k=>h.2.2 _ _ _ k⟩
def Ks{r' :Rp α}(h:yQ enc P W t r')(hr:HE r' r ok)(hag:r.agg=true){aE:DataW tD}{ps:List MemPlace}(hv:DataW.Trod enc P W 0 (fun _=>true) true t v aE ps)(hc:v= .agg v.cells): ∃y,(H r y).p (LD W) v/\ok y:=by
 obtain⟨fuel,A⟩:=hv
 obtain⟨y,hy⟩:=h.2 _ _ _ A
 obtain⟨g1,g2⟩:=hr.2.2 _ _ _ hy
 exact⟨y,⟨_,by unfold Rp.val;rw [hag,cz rfl];exact hc,g1⟩,g2⟩
def yr{l:Array Field}(M:P.underlying t=some (.struct l))(hv:Value.okWide P W .any base t v):v= .agg v.cells:=by
 unfold Value.okWide at hv
 rw [M]at hv
 obtain⟨cs,e,_⟩:=hv
 rw [e]
 rfl
end

variable{Ds:List (DataW Unit)}
section
variable{held:Bool}
def XD(P:Program)(W:World)(held:Bool)(t:TypeId)(hg:DataW Unit)(cells:List Value):Prop:=
 P.cellsOf t=cells.length/\ ∀fuel cs x,DataW.trod (fun _=>()) P W 0 (fun _=>true) held fuel t cs=some x->x.1=hg->cs=cells
def JD{n:Int}(h:P.underlying t=some (.int k))(hc:P.cellsOf t=1):XD P W held t (.lit (.int k n)) [.int k n]:=⟨hc,fun fuel cs x A hD=>by
 obtain⟨m,V,Z,_⟩:=DataW.trod_int h A
 subst Z
 simp only [DataW.lit.injEq,Lit.int.injEq,true_and]at hD
 rw [V,hD]⟩
def fT{s:List UInt8}(h:P.underlying t=some .string)(hc:P.cellsOf t=1):XD P W held t (.lit (.string s)) [.string ⟨s.toArray⟩]:=⟨hc,fun fuel cs x A hD=>by
 obtain⟨m,V,Z,_⟩:=DataW.trod_string h A
 subst Z
 simp only [DataW.lit.injEq,Lit.string.injEq]at hD
 subst hD
 rw [V]⟩
def FC(P:Program)(W:World)(held:Bool)(off:Nat)(l:List (TypeId×Nat))(Ds:List (DataW Unit))(cells:List Value):Prop:=
 ∀(n:Nat) (cs:List Value),cs.length=off+cells.length->(∀(i:Nat) f,l[i]? =some f-> ∃x,DataW.trod (fun _=>()) P W 0 (fun _=>true) held n f.1 ((cs.drop f.2).take (P.cellsOf f.1))=some x/\Ds[i]? =some x.1)->cs.drop off=cells
def Hg:FC P W held off [] [] []:=fun n cs hl _=>rp (by simp at hl;omega)
def eM{off' :Nat}{l:List (TypeId×Nat)}{hg:DataW Unit}{c:List Value}(h:XD P W held t hg c)(ho:off' =off+c.length)(k:FC P W held off' l Ds cells):FC P W held off ((t,off)::l) (hg::Ds) (c++cells):=fun n cs hl A=>by
 obtain⟨x,V,Z⟩:=A 0 (t,off) rfl
 simp only [KJ,Cn]at Z
 have h3:=h.2 n _ x V Z.symm
 have h4:=k n cs (by rw [hl,ho,pF];omega) fun i f hf=>by simpa using A (i+1) f (by simpa using hf)
 have e:cs.drop off=(cs.drop off).take (P.cellsOf t)++cs.drop off' :=by
  rw [ho,<-h.1,<-xH,uH]
 rw [e,h4]
 exact congrArg (· ++cells) h3
def Bv{l:List (TypeId×Nat)}(M:(P.underlying t).map (fun aE=>match aE with| .struct l=>(true,l.toList.map fun f=>(f.type,f.offset))|_=>(false,[]))=some (true,l))(hc:P.cellsOf t=cells.length)(hf:FC P W held 0 l Ds cells):XD P W held t (.agg Ds) cells:=⟨hc,fun fuel cs x A hD=>by
 obtain⟨fs,V,Z⟩: ∃fs,P.underlying t=some (.struct fs)/\fs.toList.map (fun f=>(f.type,f.offset))=l:=by
  cases hu:P.underlying t with
  |none=>rw [hu]at M;cases M
  |some aE=>
   rw [hu]at M
   cases aE<;>simp at M
   exact⟨_,rfl,M⟩
 obtain⟨xs,n,rfl,h3,h4,h5,h6⟩:=DataW.trod_struct V A
 rw [h3]at hD
 simp only [DataW.agg.injEq]at hD
 have:=hf n cs (by rw [h4,hc];omega) fun i f hi=>by
  rw [<-Z,Io]at hi
  obtain⟨f0,hf0,rfl⟩:=OH.1 hi
  have h7:=h6 i f0 (by simpa using hf0)
  have hlt:i<xs.length:=by
   have:=(ui.1 hf0).1
   rw [h5];simpa using this
  rw [lP hlt]at h7
  exact⟨xs[i],h7,by rw [<-hD];simp [hlt]⟩
 rwa [sC]at this⟩
def OU{m:Nat}(M:P.underlying t=some (.array m e))(hc:P.cellsOf t=cells.length)(hf:FC P W held 0 ((List.range m).map fun i=>(e,i*P.cellsOf e)) Ds cells):XD P W held t (.agg Ds) cells:=⟨hc,fun fuel cs x A hD=>by
 obtain⟨xs,n,rfl,h3,h4,h5,h6⟩:=DataW.trod_array M A
 rw [h3]at hD
 simp only [DataW.agg.injEq]at hD
 have:=hf n cs (by rw [h4,hc];omega) fun i f hi=>by
  rw [Io]at hi
  obtain⟨j,hj,rfl⟩:=OH.1 hi
  obtain⟨hlt,hj2⟩:=ui.1 hj
  simp at hlt hj2
  subst hj2
  have h7:=h6 i hlt
  have hlt' :i<xs.length:=by rw [h5];exact hlt
  rw [lP hlt']at h7
  exact⟨xs[i],h7,by rw [<-hD];simp [hlt']⟩
 rwa [sC]at this⟩
def LF: ∀{L:List (String×DataW Unit)} {ps:List MemPlace},DataW.LaidVars P W L ps-> ∀n aE,(n,aE)∈L-> ∃g t cs fuel p,P.globalNamed n=some g/\(P.globals[g]?).map (·.type)=some t/\W.var? P n=some cs/\DataW.trod (fun _=>()) P W 0 (fun _=>true) false fuel t cs.toList=some (aE,p)
 |(_,_)::_,_,⟨g,t,cs,fuel,p,_,V,Z,h3,h4,_,_⟩,_,_,.head _=>⟨g,t,cs,fuel,p,V,Z,h3,h4⟩
 |(_,_)::_,_,⟨_,_,_,_,_,_,_,_,_,_,h,_⟩,n,aE,.tail _ hm=>LF h n aE hm
def C2{L:List (String×DataW Unit)}(h:laidMet P L W){n:String}{aE:DataW Unit}(hm:(n,aE)∈L){g:Nat}(D:P.globalNamed n=some g)(M:(P.globals[g]?).map (·.type)=some t)(hc:XD P W false t aE cells):
  ∃c T fr,W.heap[g]? =some (.cells c T fr)/\c.toList.take cells.length=cells:=by
 obtain⟨ps,hL,_,_⟩:=h
 obtain⟨g',t',cs,fuel,p,V,Z,h3,h4⟩:=LF hL n aE hm
 obtain rfl:=ro (D.symm.trans V)
 obtain rfl:=ro (M.symm.trans Z)
 have h5:=hc.2 fuel _ _ h4 rfl
 unfold World.var? at h3
 rw [D]at h3
 simp only [bH]at h3
 split at h3
 ·rename_i c T fr Y
  cases h3
  exact⟨_,_,_,Y,by rw [h5,AU]⟩
 ·cases h3
end

def Lp{α:Type}{r:Rp α}(hfree: ∀{S S' :SH} {cs:List Value} {x:α},r.rc S cs x->r.rc S' cs x){S S' :SH}: ∀{xs:List α} {cs:List Value},uh r S cs xs->uh r S' cs xs
 |[],_,h=>h
 |_::_,_,h=>by
  obtain⟨ds,es,V,Z,h3⟩:=h
  exact⟨ds,es,V,hfree Z,Lp hfree h3⟩
def abU{l:Option Nat}(h:AQ mm r T l cap xs w S)(hs:mT w S): ∃S1,sj S S1/\mT w S1/\(H (eO r) xs).p S1 (J l cap xs.length):=by
 cases mm with
 |true=>exact⟨S,SH.le_refl _,hs,m7 h⟩
 |false=>
  obtain⟨cells,V,Z,h3⟩:=h
  cases l with
  |none=>exact⟨S,SH.le_refl _,hs,m7 (T:=T) ⟨cells,V,Z,fun b Y=>(by cases Y)⟩⟩
  |some b=>
   obtain⟨cur,g1,g2,g3,g4,g5⟩:=V
   have hoo:HT (.cells cells.toArray T (0,0)) (.cells cur T (0,0)):=by
    refine⟨cur.toList.drop (xs.length*r.sz),?_⟩
    congr 1
    apply Array.ext'
    rw [<-g5,uH]
   have hn:S b=none:=h3 b rfl
   have hle:sj S (S.set b (.cells cells.toArray T (0,0))):=AA fun q hq=>(by rw [hn]at hq;cases hq)
   have hsat:mT w (S.set b (.cells cells.toArray T (0,0))):=hs.set g1 hoo fun q hq=>by rw [hn]at hq;cases hq
   refine⟨_,hle,hsat,m7 (T:=T) ⟨cells,⟨cur,g1,g2,g3,g4,g5⟩,tY hle Z,fun b' hb' =>?_⟩⟩
   have hb2:b=b' :=ro hb'
   subst hb2
   exact pC _ _ _
section
variable{ty:TypeId}
end

section
variable{ty:TypeId}
def hH(hag:r.agg=true)(hr: ∀S,r.rc S [v] y)(h:bf N G x (tV (.agg #[v]))):bf N G x (H r y):=fun S a hf=>⟨[v],by rw [Rp.val,cz hag];exact h S a hf,hr S⟩
end

section
variable{N:Nat}{w0:World}{S0:SH}{fn:Func}{ι:Type}{t:ι->Ty}{O2:ι->List OE}
end

section
variable{ty:TypeId}
end
section
variable{ty:TypeId}
end

def I{α:Sort _}{a:α}:a=a:=rfl
def d:True:=trivial
abbrev bd(x:Int):Ty:=H (rI .i64) x
abbrev im(x:Bool):Ty:=H rB x
abbrev iK{α:Type}(l:List α):Ty:=H (rI .i64) (l.length:Int)
abbrev Zq:Rp (List Int):=eO (rI .i64)
abbrev pE(l:List Int):Ty:=H (eO (rI .i64)) l
abbrev fm{α:Type}(r:Rp α)(l:List α):Ty:=H (eO r) l
abbrev sn{α:Type}(l:Option Nat)(c:Nat)(xs:List α):Ty:=tV (J l c xs.length)
def bb: ∀{G' G:mK},G'.map (fun p=>look G p.1)=G'.map (fun p=>some p.2)->QG G' G
 |[],_,_=>trivial
 |(_,_)::_,_,h=>⟨(Ci h).1,bb (Ci h).2⟩

section
variable{ty:TypeId}
def gH{x:Nat}{t:Ty}(h:look G x=some t):cE E O G ⟨dst,.move (.tmp x),ty,pos,after,g⟩ t:=bC (M h)
def AW{x:Nat}{t:Ty}(h:look G x=some t):cE E O G ⟨dst,.assign (.tmp x),ty,pos,after,g⟩ t:=cg (M h)
def zai{n:Int}:cE E O G ⟨dst,.assign (.const (.int k n)),ty,pos,after,g⟩ (H (rI k) n):=cg hI
def zab{b:Bool}:cE E O G ⟨dst,.assign (.const (.bool b)),ty,pos,after,g⟩ (H rB b):=cg hB
def qN{x:α}{p:Nat}(ti:TI E.P U sz bytes agg z)(hp:look G p=some (bt r x))(hs:(r.sz,r.agg)=(sz,agg)):
  cE E O G ⟨dst,.load U (.tmp p),ty,pos,after,g⟩ (H r x):=fJ ti (xG hs).1 (xG hs).2 (M hp)
def oJ{get:α->β}{x:α}{i:Nat}{p:Nat}(hf:bP E.P T i=some (off,sz))(hq:jn r off q get)(hp:look G p=some (bt r x))(h0:(!(Nat.beq sz 0)&&Nat.ble (off+q.sz) r.sz)=true):cE E O G ⟨dst,.fieldAddr T (.tmp p) i,ty,pos,after,g⟩ (bt q (get x)):=
 iI hf (by cases h:Nat.beq sz 0<;>simp [h]at h0 ⊢) hq (by revert h0;cases Nat.ble (off+q.sz) r.sz<;>simp) (M hp)
def zln{x:Nat}(hu:E.P.underlying t=some (.slice e))(A:look G x=some (H (eO r) xs)):
  cE E O G ⟨dst,.call ⟨.builtin .len,#[.tmp x],#[t]⟩,ty,pos,after,g⟩ (H (rI .i64) (xs.length:Int)):=fN hu (M A)
def vS{x:Nat}{i:Nat}{t:Ty}(hi:ts[i]? =some t)(A:look G x=some (tT ts)):cE E O G ⟨dst,.extract (.tmp x) i,ty,pos,after,g⟩ t:=GP hi (M A)
def zbx{v:α}{x:Nat}(A:look G x=some (H r v)):cE E O G ⟨dst,.box T (.tmp x),ty,pos,after,g⟩ (bt r v):=Nv (M A)
def zpa{c x:Nat}{b q:Bool}(hc:look G c=some (H rB b))(A:look G x=some (qb b (H rB q))):cE E O G ⟨dst,.pick (.tmp c) (.tmp x) (.const (.bool false)),ty,pos,after,g⟩ (H rB (b&&q)):=jw (M hc) (fun Y=>bF A Y)
def zpo{c x:Nat}{b q:Bool}(hc:look G c=some (H rB b))(A:look G x=some (qb (!b) (H rB q))):cE E O G ⟨dst,.pick (.tmp c) (.const (.bool true)) (.tmp x),ty,pos,after,g⟩ (H rB (b||q)):=DW (M hc) (fun Y=>bF A (nR Y))
variable{xt yt:TypeId}{x y:Nat}{m n:Int}
def zlt(A:look G x=some (H (rI k) m))(hy:look G y=some (H (rI k) n)):cE E O G ⟨dst,.binOp .lss xt (.tmp x) (.tmp y) yt,ty,pos,after,g⟩ (H rB (decide (m<n))):=eP (M A) (M hy)
def zei{j:IntKind}(A:look G x=some (H (rI j) m)):cE E O G ⟨dst,.binOp .eql xt (.tmp x) (.const (.int j n)) yt,ty,pos,after,g⟩ (H rB (m==n)):=mg (M A) hI
def zni{j:IntKind}(A:look G x=some (H (rI j) m)):cE E O G ⟨dst,.binOp .neq xt (.tmp x) (.const (.int j n)) yt,ty,pos,after,g⟩ (H rB (m !=n)):=dZ (M A) hI
def Cc{y:α}{x ix:Nat}{k:IntKind}{i:Int}(hu:E.P.underlying t=some (.slice e))(ti:TI E.P e sz bytes agg z)(hsz:r.sz=sz)(A:look G x=some (H (eO r) xs))(hi:look G ix=some (H (rI k) i))(hy:fB xs i=some y):
  cE E O G ⟨dst,.indexAddr t (.tmp x) (.tmp ix),ty,pos,after,g⟩ (bt r y):=ev hu ti hsz (M A) (M hi) hy
def zin{i:Nat}{x:Nat}{xt yt:TypeId}(hi:i<9223372036854775807)(A:look G x=some (H (rI .i64) (i:Int))):
  cE E O G ⟨dst,.binOp .add xt (.tmp x) (.const (.int .i64 1)) yt,ty,pos,after,g⟩ (H (rI .i64) ((i+1:Nat):Int)):=wl hi (M A) hI
def lv{i o:Nat}{p:Nat}(n:Nat)(hf:bP E.P T i=some (off,sz))(h0:Nat.beq sz 0=false)(hp:look G p=some (tV (an b o)))(he:o+off=n):cE E O G ⟨dst,.fieldAddr T (.tmp p) i,ty,pos,after,g⟩ (tV (an b n)):=wR (n:=n) hf h0 (M hp) he
end
section
variable{l:List Oper}
def zo{ty:TypeId}{t:Ty}(hd:Nat.blt aE E.N.n=true)(h:cE E O G ⟨some aE,op,ty,pos,after,none⟩ t)(k:RG E ops ah l O ((aE,t)::G)):
  RG E ops ah (⟨some aE,op,ty,pos,after,none⟩::l) O G:=Jl h hd k
def vA(n aE:Nat)(r:Option Ty):Option Ty:=if Nat.blt aE n then r else none
def dC{r:Option Ty}{t:Ty}(h:vA n aE r=some t):Nat.blt aE n=true/\r=some t:=by
 unfold vA at h;split at h
 case isTrue V=>exact⟨V,h⟩
 case isFalse=>cases h
def aX{x:Nat}{ty:TypeId}{t:Ty}(h:vA E.N.n aE (look G x)=some t)(k:RG E ops ah l O ((aE,t)::G)):
  RG E ops ah (⟨some aE,.move (.tmp x),ty,pos,after,none⟩::l) O G:=Jl (bC (M (dC h).2)) (dC h).1 k
def gE{x:Nat}{ty:TypeId}{t:Ty}(h:vA E.N.n aE (look G x)=some t)(k:RG E ops ah l O ((aE,t)::G)):
  RG E ops ah (⟨some aE,.assign (.tmp x),ty,pos,after,none⟩::l) O G:=Jl (cg (M (dC h).2)) (dC h).1 k
def bO{y:Code}(h:CG E ah y O G):RG E ops (Exit.then (y.wpIn (fw E.r) 0 E.P ah) ah) [] O G:=bz (av h)
def aY{id:Nat}{l:List Oper}{y:Code}(h:RG E l.toArray (Exit.then (y.wpIn (fw E.r) 0 E.P ah) ah) l O G):CG E ah (.seq (.region id l.toArray false) y) O G:=aD (aJ h)
def mA{β:Type _}{X hb:Option β}{r:β}{c:Nat}{x y:Code}{b:Bool}(h:(if b=true then X else hb)=some r)(Y:look G c=some (H rB b))(A:X=some r->CG E ah x O G)(hy:hb=some r->CG E ah y O G):CG E ah (.cond (.tmp c) x y) O G:=
 FQ (M Y) (fun hc=>A (ct h hc)) (fun hc=>hy (cf h hc))
def gC{y:Code}(h:CG E ah y O G):CG E (Exit.then (y.wpIn (fw E.r) 0 E.P ah) ah) .skip O G:=bk (av h)
def zgt{j gs:Nat}{b:Bool}{ty:TypeId}{t:Ty}(hj:(ops[j]?).bind (·.dst)=some gs)(D:vA E.N.n gs (vA E.N.n aE (look G gs))=some (H rB b))(h:b=true->cE E O G ⟨some aE,op,ty,pos,after,some (j,true)⟩ t)(k:RG E ops ah l O ((aE,qb b t)::G)):RG E ops ah (⟨some aE,op,ty,pos,after,some (j,true)⟩::l) O G:=WL hj (dC D).1 (dC (dC D).2).2 (dC (dC D).2).1 h k
def zgf{j gs:Nat}{b:Bool}{ty:TypeId}{t:Ty}(hj:(ops[j]?).bind (·.dst)=some gs)(D:vA E.N.n gs (vA E.N.n aE (look G gs))=some (H rB b))(h:(!b)=true->cE E O G ⟨some aE,op,ty,pos,after,some (j,false)⟩ t)(k:RG E ops ah l O ((aE,qb (!b) t)::G)):RG E ops ah (⟨some aE,op,ty,pos,after,some (j,false)⟩::l) O G:=WM hj (dC D).1 (dC (dC D).2).2 (dC (dC D).2).1 h k
end
def cq{α:Type _}{β:Type _}{x:Option α}{k:α->Option β}{r:β}{P:Prop}(h:x.bind k=some r)(f: ∀y,x=some y->k y=some r->P):P:=by
 obtain⟨y,V,Z⟩:=bs h;exact f y V Z
variable{u1:Ty}
section
variable{l:List Oper}{i:Nat}{t:Ty}
def Kt{a b c:Bool}(h:(a&&b&&c)=true):a=true/\b=true/\c=true:=by revert h;cases a<;>cases b<;>cases c<;>simp
def isn{x:Option α}(h:x.isNone=true):x=none:=by cases x;rfl;cases h
def zd0(h:ts[i]? =some t)(k:cE E O [] o t)(Y:(fx i o&&o.guard.isNone)=true:=by exact rfl): ∃(needs:List Nd) (t:Ty),ts[i]? =some t/\uF G ts needs/\(needs.all (qP l o i))=true/\fx i o=true/\bo E O l.toArray (kQ needs) o t:=
 ⟨[],t,h,trivial,rfl,(EE.1 Y).1,aa (isn (EE.1 Y).2) k⟩
def ug(a:Nat){u:Ty}(h:ts[i]? =some t)(hu:Dp G ts ⟨a,u,none⟩)(k:cE E O [(a,u)] o t)(Y:([(⟨a,u,none⟩:Nd)].all (qP l o i)&&fx i o&&o.guard.isNone)=true:=by exact rfl): ∃(needs:List Nd) (t:Ty),ts[i]? =some t/\uF G ts needs/\(needs.all (qP l o i))=true/\fx i o=true/\bo E O l.toArray (kQ needs) o t:=
 ⟨[(⟨a,u,none⟩:Nd)],t,h,⟨hu,trivial⟩,(Kt Y).1,(Kt Y).2.1,aa (isn (Kt Y).2.2) k⟩
def ga(a:Nat)(j:Nat){u:Ty}(h:ts[i]? =some t)(hu:Dp G ts ⟨a,u,(some j)⟩)(k:cE E O [(a,u)] o t)(Y:([(⟨a,u,(some j)⟩:Nd)].all (qP l o i)&&fx i o&&o.guard.isNone)=true:=by exact rfl): ∃(needs:List Nd) (t:Ty),ts[i]? =some t/\uF G ts needs/\(needs.all (qP l o i))=true/\fx i o=true/\bo E O l.toArray (kQ needs) o t:=
 ⟨[(⟨a,u,(some j)⟩:Nd)],t,h,⟨hu,trivial⟩,(Kt Y).1,(Kt Y).2.1,aa (isn (Kt Y).2.2) k⟩
def su(a:Nat)(a1:Nat)(j1:Nat){u:Ty}(h:ts[i]? =some t)(hu:Dp G ts ⟨a,u,none⟩)(hu1:Dp G ts ⟨a1,u1,(some j1)⟩)(k:bo E O l.toArray [(a,u),(a1,u1)] o t)(Y:([(⟨a,u,none⟩:Nd),⟨a1,u1,(some j1)⟩].all (qP l o i)&&fx i o)=true:=by exact rfl): ∃(needs:List Nd) (t:Ty),ts[i]? =some t/\uF G ts needs/\(needs.all (qP l o i))=true/\fx i o=true/\bo E O l.toArray (kQ needs) o t:=
 ⟨[(⟨a,u,none⟩:Nd),⟨a1,u1,(some j1)⟩],t,h,⟨hu,hu1,trivial⟩,(EE.1 Y).1,(EE.1 Y).2,k⟩
def fg(a:Nat)(j:Nat)(a1:Nat)(j1:Nat){u:Ty}(h:ts[i]? =some t)(hu:Dp G ts ⟨a,u,(some j)⟩)(hu1:Dp G ts ⟨a1,u1,(some j1)⟩)(k:cE E O [(a,u),(a1,u1)] o t)(Y:([(⟨a,u,(some j)⟩:Nd),⟨a1,u1,(some j1)⟩].all (qP l o i)&&fx i o&&o.guard.isNone)=true:=by exact rfl): ∃(needs:List Nd) (t:Ty),ts[i]? =some t/\uF G ts needs/\(needs.all (qP l o i))=true/\fx i o=true/\bo E O l.toArray (kQ needs) o t:=
 ⟨[(⟨a,u,(some j)⟩:Nd),⟨a1,u1,(some j1)⟩],t,h,⟨hu,hu1,trivial⟩,(Kt Y).1,(Kt Y).2.1,aa (isn (Kt Y).2.2) k⟩
def ml(a:Nat)(j:Nat)(a1:Nat)(j1:Nat){u:Ty}(h:ts[i]? =some t)(hu:Dp G ts ⟨a,u,(some j)⟩)(hu1:Dp G ts ⟨a1,u1,(some j1)⟩)(k:bo E O l.toArray [(a,u),(a1,u1)] o t)(Y:([(⟨a,u,(some j)⟩:Nd),⟨a1,u1,(some j1)⟩].all (qP l o i)&&fx i o)=true:=by exact rfl): ∃(needs:List Nd) (t:Ty),ts[i]? =some t/\uF G ts needs/\(needs.all (qP l o i))=true/\fx i o=true/\bo E O l.toArray (kQ needs) o t:=
 ⟨[(⟨a,u,(some j)⟩:Nd),⟨a1,u1,(some j1)⟩],t,h,⟨hu,hu1,trivial⟩,(EE.1 Y).1,(EE.1 Y).2,k⟩
def tM(a:Nat)(j:Nat)(a1:Nat)(j1:Nat)(a2:Nat)(j2:Nat){u:Ty}{u2:Ty}(h:ts[i]? =some t)(hu:Dp G ts ⟨a,u,(some j)⟩)(hu1:Dp G ts ⟨a1,u1,(some j1)⟩)(hu2:Dp G ts ⟨a2,u2,(some j2)⟩)(k:bo E O l.toArray [(a,u),(a1,u1),(a2,u2)] o t)(Y:([(⟨a,u,(some j)⟩:Nd),⟨a1,u1,(some j1)⟩,⟨a2,u2,(some j2)⟩].all (qP l o i)&&fx i o)=true:=by exact rfl): ∃(needs:List Nd) (t:Ty),ts[i]? =some t/\uF G ts needs/\(needs.all (qP l o i))=true/\fx i o=true/\bo E O l.toArray (kQ needs) o t:=
 ⟨[(⟨a,u,(some j)⟩:Nd),⟨a1,u1,(some j1)⟩,⟨a2,u2,(some j2)⟩],t,h,⟨hu,hu1,hu2,trivial⟩,(EE.1 Y).1,(EE.1 Y).2,k⟩
end
end Go.Proofs.YthbdkceckjihgaaGreatDoor

