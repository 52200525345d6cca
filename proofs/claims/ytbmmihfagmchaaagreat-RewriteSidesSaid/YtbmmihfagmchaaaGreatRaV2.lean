/- db of this claim: W16, W17, W18, W19, W20, W22, W23, W24, W25, W26, W28, W30, W31, W32. -/
import Derived.Test.YtbmmihfagmchaaaGreatRaV1
import Derived.RangeFuncRecord
import Derived.RangeFuncLeaves
import Derived.Laws.StructEq
import Derived.Lib.ConvBytes
import Derived.Lib.AppendZeros
import Derived.Laws.MakeOwn
import Derived.MapKept
import Derived.Scope
import Derived.ChangeKeysEq
set_option linter.all false
namespace Go.Proofs.YtbmmihfagmchaaaGreat
open Go

def iT(L:List Oper):Nat->Nat->Nat->Bool
 |0,_,_=>false
 |n+1,i,j=>match L[i]? with
  |some o=>o.after.toList.any fun e=>Region.binds .any e&&(Nat.beq e.on j||iT L n e.on j)
  |none=>false
def oZ(L:List Oper)(m:Nat):Bool:=(List.range m).all fun j=>iT L L.length m j
def qm(L:List Oper)(n k:Nat):Bool:=(List.range k).all fun m=>oZ L (n+m)&&(match L[n+m]? with|some o=>cQ (n+m) o&&o.guard.isNone|none=>false)
variable{L:List Oper}{done:Array Bool}{e:TypeId}{hi:Int}{i:Nat}{j:Int}{n:Nat}{o:Oper}
def dO{L:List Oper}{done:Array Bool}(down: ∀j o,L[j]? =some o->done.getD j false=true-> ∀e∈o.after,Region.binds .any e=true->done.getD e.on false=true):
  ∀(n i j:Nat),(∀o,L[i]? =some o-> ∀e∈o.after,Region.binds .any e=true->done.getD e.on false=true)->iT L n i j=true->done.getD j false=true
 |0,_,_,_,h=>by cases h
 |n+1,i,j,hi,h=>by
  unfold iT at h
  cases ho:L[i]? with
  |none=>rw [ho]at h;cases h
  |some o=>
   rw [ho]at h
   obtain⟨e,he0,V⟩:=q7.1 h
   have he:e∈o.after:=by simpa using he0
   rw [kA,vf]at V
   have hd:=hi o ho e he V.1
   rcases V.2 with Y|Y
   ·rw [<-kB Y];exact hd
   ·exact dO down n e.on j (fun p hp=>down e.on p hp hd) Y
variable{E:En}{G:gJ}{O:List OE}{S S' :SH}{a:Act}{d:Nat}{k:IntKind}{l:Option Nat}{t:TypeId}{ts:List Ty}{γ:Type}{u:Rp γ}{w w' :World}
def DJ.stepT{l:List Oper}(h:DJ E O G l ts done a w S){t:Ty}{v:Value}(hi:l[i]? =some o)(hd:o.dst=some d)(hdN:d<E.N.n)(hs2: ∀j p,l[j]? =some p->done.getD j false=true->p.dst=some d->i=j)(hwait: ∀e∈o.after,Region.binds .any e=true->done.getD e.on false=true)(D:ts[i]? =some t)(hun:done.getD i true=false)(hext:ez la w S w' S')(hsat:gc w' S')(hv:t.p S' v):DJ E O G l ts (done.setIfInBounds i true) (a.put o.dst v) w' S' :=by
 have hda:d<a.tmps.size:=by rw [h.size];exact hdN
 have hlt:i<done.size:=by rw [h.dsz];exact(mH.1 hi).1
 have hset: ∀j,(done.setIfInBounds i true).getD j false=true->j=i\/done.getD j false=true:=fun j hj=>by
  by_cases hij:i=j
  ·exact .inl hij.symm
  ·rw [rY false hij]at hj;exact .inr hj
 have hseti:(done.setIfInBounds i true).getD i false=true:=by simp [hlt]
 have hun' :done.getD i false=false:=by simp [hlt]at hun ⊢;exact hun
 refine⟨h.ext.step0 hext,hsat,h.own.ext0 hext,?_,?_,by simp [h.dsz],fun j p hj hdone e he V=>?_,fun k u hk hno=>?_,fun j p d' u hj hdone hd' hu=>?_⟩
 ·rw [hd];simp [Act.put,h.size]
 ·rw [hd];exact h.defers
 ·rcases hset j hdone with rfl|hj'
  ·rw [hi]at hj
   have:o=p:=by simpa using hj
   subst this
   exact ox (hwait e he V)
  ·exact ox (h.down j p hj hj' e he V)
 ·have hne:d≠k:=fun e=>hno i o hi hseti (by rw [hd,e])
  rw [hd,lG hda,ei hne]
  exact u.mono hext.keep (h.old k u hk fun j p hj hdone=>hno j p hj (ox hdone))
 ·rw [hd,lG hda]
  rcases hset j hdone with rfl|hj'
  ·rw [hi]at hj
   have:o=p:=by simpa using hj
   subst this
   rw [hd]at hd'
   have:d=d' :=by simpa using hd'
   subst this
   rw [eF rfl]
   rw [D]at hu
   have:t=u:=by simpa using hu
   subst this
   exact hv
  ·have hne:d≠d' :=fun e=>by
    subst e
    have:=hs2 j p hj hj' hd'
    subst this
    rw [hj']at hun';cases hun'
   rw [ei hne]
   exact u.mono hext.keep (h.new j p d' u hj hj' hd' hu)
def jx(h:i<done.size):done.getD i true=done.getD i false:=by simp [h]
def no(h:gz done=0)(hi:i<done.size):done.getD i false=true:=by
 unfold gz at h
 rw [List.countP_eq_zero]at h
 have H:done[i]∈done.toList:=by simp
 have:=h _ H
 rw [<-jx hi]
 simpa [hi] using this
variable{P:Program}{Q:Exit->Act->World->Prop}{f:FuncId}{α β:Type}{m:Nat}{q:Rp β}{r:Rp α}{rest:List Oper}{xs:List α}
def qC{r:Option Nat}(hc: ∀m o,n<=m->L[m]? =some o->oZ L m=true)(hedge: ∀m o,L[m]? =some o->cQ m o=true):
  ∀(rest:List Oper) (m:Nat) (done:Array Bool) (fuel:Nat) (a:Act) (w:World),n<=m->L.drop m=rest->done.size=L.length->(∀j,j<L.length->(done.getD j false=true↔j<m))->gz done=fuel->
   wpListIn (fw r) 0 P L.toArray Q rest a w->wpAnyIn (fw r) 0 P .any L.toArray Q fuel done a w:=by
 intro rest
 induction rest with
 |nil=>
  intro m done fuel a w hnm hdrop hsz hdone hu h
  have hlen:L.length<=m:=wy.1 hdrop
  have hr:Region.ready .any L.toArray done=[]:=by
   cases hr:Region.ready .any L.toArray done with
   |nil=>rfl
   |cons i r=>
    have hm:i∈Region.ready .any L.toArray done:=by rw [hr];exact k5 ..
    obtain⟨hun,o,ho,_⟩:=qw.1 hm
    have hi:i<L.length:=by simpa using (qz.1 ho).1
    have:=(hdone i hi).2 (by omega)
    rw [jx (by omega)]at hun
    rw [hun]at this;cases this
  cases fuel with
  |zero=>exact⟨hr,h⟩
  |succ f=>exact⟨fun _=>h,fun i hi=>by rw [hr]at hi;cases hi⟩
 |cons o rest ih=>
  intro m done fuel a w hnm hdrop hsz hdone hu h
  have hm:m<L.length:=by
   rcases iH m L.length with h' |h'
   ·exact h'
   ·rw [wy.2 h']at hdrop;cases hdrop
  have hLm:L[m]? =some o:=by
   have:=qg (xs:=L) (i:=m) (j:=0)
   rw [hdrop]at this
   simpa using this.symm
  have hmu:done.getD m true=false:=by
   have hnot: ¬(done.getD m false=true):=fun H=>by have:=(hdone m hm).1 H;omega
   rw [jx (by omega)]
   exact q8 _▸hnot
  have honly: ∀i∈Region.ready .any L.toArray done,i=m:=by
   intro i hi
   obtain⟨hun,p,hp,hwait⟩:=qw.1 hi
   have hp' :L[i]? =some p:=by simpa using hp
   have hil:i<L.length:=(mH.1 hp').1
   have hid: ¬i<m:=fun hlt=>by
    have H:=(hdone i hil).2 hlt
    rw [jx (by omega)]at hun
    rw [hun]at H;cases H
   rcases iH m i with hlt|hge
   ·exfalso
    have hcov:=hc i p (by omega) hp'
    unfold oZ at hcov
    have hre:=kz.1 hcov m (by simpa using hlt)
    have:done.getD m false=true:=by
     refine dO (L:=L) (done:=done) (fun j q hj hjd e he V=>?_) _ i m (fun q hq e he V=>?_) hre
     ·have hjl:j<L.length:=(mH.1 hj).1
      have hjm:=(hdone j hjl).1 hjd
      have:=hedge j q hj
      unfold cQ at this
      have:=kz.1 this e (by simpa using he)
      simp only [V,po,tI,pc]at this
      exact(hdone e.on (by omega)).2 (by omega)
     ·have:q=p:=by rw [hp']at hq;simpa using hq.symm
      subst this
      exact hwait e he V
    have:=(hdone m hm).1 this
    omega
   ·omega
  have hready:m∈Region.ready .any L.toArray done:=by
   rw [qw]
   refine⟨hmu,o,by simpa using hLm,fun e he V=>?_⟩
   have:=hedge m o hLm
   unfold cQ at this
   have:=kz.1 this e (by simpa using he)
   simp only [V,po,tI,pc]at this
   exact(hdone e.on (by omega)).2 this
  cases fuel with
  |zero=>
   have:=no hu (i:=m) (by omega)
   have:=(hdone m hm).1 this
   omega
  |succ fuel=>
   refine⟨fun hr=>(by rw [hr]at hready;cases hready),fun i hi=>?_⟩
   have:=honly i hi
   subst this
   have hnext:=fun a w=>ih (i+1) (done.setIfInBounds i true) fuel a w (by omega) (by rw [<-lW,hdrop];rfl) (by simpa using hsz) (fun j hj=>by
    by_cases hij:i=j
    ·subst hij;have:i<done.size:=by omega
     simp [this]
    ·rw [rY false hij,hdone j hj];omega) (by have:=lg hmu;omega)
   unfold wpOpIn
   have hLm' :L.toArray[i]? =some o:=by simpa using hLm
   rw [hLm']
   show if _ then _ else _
   unfold wpListIn at h
   by_cases hw:Region.wanted o (yielded L.toArray a.tmps)=true
   ·rw [eF hw]at h ⊢;exact Oper.wpIn_mono (fun a w hk=>hnext a w hk) h
   ·rw [ei hw]at h ⊢;exact⟨h.1,hnext _ _ h.2⟩
def xM{l t:List Oper}(hsl:oB E.N.n [] l=true)(hlen:ts.length=l.length)(hd:DR E O G (l++t) ts 0 l)(D:qm (l++t) l.length t.length=true)(hQ: ∀a w S,St E O (zB l ts G) a w S->wpListIn (fw E.r) 0 E.P (l++t).toArray Q t a w):
  ∀(fuel:Nat) (done:Array Bool) (a:Act) (w:World) (S:SH),gz done=fuel->(∀j,l.length<=j->done.getD j false=false)->DJ E O G (l++t) ts done a w S->wpAnyIn (fw E.r) 0 E.P .any (l++t).toArray Q fuel done a w:=by
 have hL1: ∀i o,i<l.length->(l++t)[i]? =some o->l[i]? =some o:=fun i o hi h=>by rwa [vj hi]at h
 have hL2: ∀i o,l[i]? =some o->(l++t)[i]? =some o:=fun i o h=>by rw [vj (mH.1 h).1];exact h
 have htail: ∀m o,l.length<=m->(l++t)[m]? =some o->oZ (l++t) m=true/\cQ m o=true:=fun m o hm ho=>by
  have hml:m<(l++t).length:=(mH.1 ho).1
  rw [hT]at hml
  unfold qm at D
  have:=kz.1 D (m-l.length) (by simp;omega)
  rw [show l.length+(m-l.length)=m from by omega,ho]at this
  simp only [kA]at this
  exact⟨this.1,this.2.1⟩
 have hedge: ∀i o,(l++t)[i]? =some o->cQ i o=true:=fun i o hi=>by
  rcases iH i l.length with h|h
  ·obtain⟨_,_,_,_,_,h,_⟩:=DR.get l 0 hd i o (hL1 i o h hi)
   simpa using h
  ·exact(htail i o h hi).2
 obtain⟨hs1,hs2⟩:=py l [] hsl
 have fin: ∀fuel done a w S,gz done=fuel->(∀j,l.length<=j->done.getD j false=false)->DJ E O G (l++t) ts done a w S->(∀i,i<l.length->done.getD i false=true)->wpAnyIn (fw E.r) 0 E.P .any (l++t).toArray Q fuel done a w:=by
  intro fuel done a w S hu hfree h hall
  refine qC (n:=l.length) (fun m o hm ho=>(htail m o hm ho).1) hedge t l.length done fuel a w (iZ _) (by simp) h.dsz (fun j hj=>⟨fun hjd=>?_,fun hlt=>hall j hlt⟩) hu
   (hQ a w S ⟨h.ext,h.sat,h.own,h.size,h.defers,fun j u hj=>?_⟩)
  ·rcases iH j l.length with h' |h'
   ·exact h'
   ·rw [hfree j h']at hjd;cases hjd
  ·rcases vS l ts j u (fun o ho e=>by obtain⟨d,hd,_⟩:=hs1 o ho;rw [hd]at e;cases e) hlen hj with⟨i,o,Y,H,h3⟩|⟨Y,H⟩
   ·exact h.new i o j u (hL2 i o Y) (hall i (mH.1 Y).1) H h3
   ·refine h.old j u Y fun i o ho hdn=>?_
    rcases iH i l.length with h' |h'
    ·exact H o (pq (hL1 i o h' ho))
    ·rw [hfree i h']at hdn;cases hdn
 have lower: ∀done a w S i,(∀j,l.length<=j->done.getD j false=false)->DJ E O G (l++t) ts done a w S->i∈Region.ready .any (l++t).toArray done->l.length<=i-> ∀j,j<l.length->done.getD j false=true:=by
  intro done a w S i hfree h hi hge j hj
  obtain⟨hun,p,hp,hwait⟩:=qw.1 hi
  have hp' :(l++t)[i]? =some p:=by simpa using hp
  have hcov:=(htail i p hge hp').1
  unfold oZ at hcov
  have hre:=kz.1 hcov j (by simp;omega)
  exact dO h.down _ i j (fun q hq e he V=>by
   have:q=p:=by rw [hp']at hq;simpa using hq.symm
   subst this
   exact hwait e he V) hre
 intro fuel
 induction fuel with
 |zero=>
  intro done a w S hu hfree h
  exact fin 0 done a w S hu hfree h fun i hi=>no hu (by rw [h.dsz,hT];omega)
 |succ fuel ih=>
  intro done a w S hu hfree h
  by_cases hall: ∀i,i<l.length->done.getD i false=true
  ·exact fin _ done a w S hu hfree h hall
  have hready0: ∀m i,i<m->i<l.length->Region.ready .any (l++t).toArray done=[]->done.getD i false=true:=by
   intro m
   induction m with
   |zero=>intro i h;omega
   |succ m ihm=>
    intro i him hil hr
    have his:i<done.size:=by rw [h.dsz,hT];omega
    by_cases hdn:done.getD i true=true
    ·rw [<-jx his];exact hdn
    ·exfalso
     obtain⟨o,ho⟩: ∃o,(l++t)[i]? =some o:=⟨l[i],hL2 i _ (lX hil)⟩
     have hmem:i∈Region.ready .any (l++t).toArray done:=by
      rw [qw]
      refine⟨by simpa using hdn,o,by simpa using ho,fun e he V=>?_⟩
      have:=hedge i o ho
      unfold cQ at this
      have:=kz.1 this e (by simpa using he)
      simp only [V,po,tI,pc]at this
      exact ihm e.on (by omega) (by omega) hr
     rw [hr]at hmem;cases hmem
  refine⟨fun hr=>absurd (fun i hi=>hready0 (i+1) i (by omega) hi hr) hall,fun i hi=>?_⟩
  have hil:i<l.length:=by
   rcases iH i l.length with h' |h'
   ·exact h'
   ·exact absurd (lower done a w S i hfree h hi h') hall
  obtain⟨hun,o,ho,hwait⟩:=qw.1 hi
  have ho' :(l++t)[i]? =some o:=by simpa using ho
  have hol:=hL1 i o hil ho'
  obtain⟨needs,u,Y,H,h3,_,h5⟩:=DR.get l 0 hd i o hol
  rw [oa]at Y h3
  have hF:=h.need ho' hun hwait H h3
  have h6:=h5 a w S h.sat h.own hF
  have hu' :gz (done.setIfInBounds i true)=fuel:=by have:=lg hun;omega
  obtain⟨d,hdd,hdN,_⟩:=hs1 o (pq hol)
  have huq: ∀j p,(l++t)[j]? =some p->done.getD j false=true->p.dst=some d->i=j:=fun j p hj hjd hpd=>by
   rcases iH j l.length with h' |h'
   ·exact hs2 i j o p hol (hL1 j p h' hj) (by rw [hdd,hpd])
   ·rw [hfree j h']at hjd;cases hjd
  have hfree' : ∀j,l.length<=j->(done.setIfInBounds i true).getD j false=false:=fun j hj=>by
   rw [rY false (by omega)];exact hfree j hj
  unfold wpOpIn
  rw [ho]
  show if _ then _ else _
  by_cases hw:Region.wanted o (yielded (l++t).toArray a.tmps)=true
  ·rw [eF hw]at h6 ⊢
   refine gj (fun a' w' ⟨v,S',ha,he,hs,hv⟩=>?_) h6
   subst ha
   exact ih _ _ _ S' hu' hfree' (h.stepT ho' hdd hdN huq hwait Y hun he hs hv)
  ·rw [ei hw]at h6 ⊢
   exact⟨fun _ _=>trivial,ih _ _ _ S hu' hfree' (h.stepT ho' hdd hdN huq hwait Y hun (ez.refl _ _ _) h.sat h6)⟩
def Dx{id:Nat}{l t:List Oper}(hL:L=l++t)(hm:E.P.follows .mixedOrders=true)(hsl:oB E.N.n [] l=true)(hlen:ts.length=l.length)(D:qm L l.length t.length=true)(hd:DR E O G L ts 0 l)(k:RG E L.toArray Q t O (zB l ts G)):CG E Q (.region id L.toArray true) O G:=fun a w S st=>by
 subst hL
 refine wpIn_region_any hm ?_
 obtain⟨he,hs⟩:=pT (w:=w) st.sat
 refine xM hsl hlen hd D (fun a w S st=>k a w S st) _ _ _ _ S ?_ (fun j _=>?_)
  ⟨st.ext.step0 he,hs,st.own.ext0 he,st.facts.size,st.facts.defers,by simp,fun j o hj hdone=>?_,fun k t hk _=>st.facts.at_ k t hk,fun j o d t hj hdone=>?_⟩
 ·unfold gz;rw [Al,Aj];simp
 ·simp [qy];split<;>rfl
 ·simp [qy]at hdone
  split at hdone<;>simp at hdone
 ·simp [qy]at hdone
  split at hdone<;>simp at hdone

abbrev It(α:Type):=(σ:Type)->(α->σ->Option (Bool×σ))->σ->Option σ

def qn(Se:SH)(O:List OE):OE where
 fp:=fun k=> ∃f∈O,f.fp k
 p:=fun w S=>kT Se S/\cF 0 la w S O
 here:=fun⟨_,h⟩ _ ⟨f,M,hk⟩=>f.here (cF.mem h f M).1 _ hk
 kept:=fun⟨Y,H⟩ k hC=>⟨SH.le_trans Y k.keep,H.ext k fun f M b V=>hC b ⟨f,M,V⟩⟩
variable{B:Nat->Prop}{base:Nat}
def cF.weak: ∀{O:List OE},cF base B w S O->cF 0 la w S O
 |[],_=>trivial
 |_::_,⟨Y,H,h3⟩=>⟨⟨Y.1,fun _ _=> .inl (ky _)⟩,H,cF.weak h3⟩
def jC: ∀{O:List OE},cF 0 la w S O->(∀f∈O,∀k,f.fp k->base<=k\/B k)->cF base B w S O
 |[],_,_=>trivial
 |_::_,⟨Y,H,h3⟩,h=>⟨⟨Y.1,h _ (k5 ..)⟩,H,jC h3 fun f M=>h f (nf _ M)⟩
def zX(b:Nat):OE where
 fp:=fun k=>k=b
 p:=fun w S=>S b=none/\w.heap[b]? =some (.deferred (some []))
 here:=by
  intro w S h k hk
  subst hk
  exact(qz.1 h.2).1
 kept:=by
  intro C w w' S S' h k hC
  have hlt:=(qz.1 h.2).1
  exact⟨by rw [k.old b hlt (hC b rfl)];exact h.1,by rw [k.heap b hlt (hC b rfl)];exact h.2⟩
def sW(b:Nat):Deferred:={target:= .collected b,args:= #[]}

def Im(P:Program){α σ:Type}(args:α->List Ty)(y:α->σ->Option (Bool×σ))(hx:σ->OE->Prop)(yv:Value):Prop:=
 ∃l,yv= .func (.yield l) #[] #[]/\ ∀x s r,y x s=some r-> ∀e,hx s e-> ∀w S vs,gc w S->e.p w S->pm S (args x) vs->
  ∃f tmps assign body,(Instr.yield l vs.toArray).run P w= .ok (.round l f tmps assign body) w/\
   RoundIn (fw none) 0 P l f tmps assign body w fun en w' => ∃e' S',en= .returned (.bool r.1)/\hx r.2 e' /\ez e.fp w S w' S' /\gc w' S' /\e'.p w' S' /\ ∀k,e'.fp k->e.fp k\/w.heap.size<=k
variable{after:Array Edge}{ats:Array TypeId}{b:Nat}{c:Code}{ops:Array Oper}{pos:String}{x:Operand}{y:α}
section
variable{ty:TypeId}
def Cu{e e' :OE}{O:List OE}(h:cF base B w S (e::O))(k:ez e.fp w S w' S')(hp:e'.p w' S')(hn: ∀b,e'.fp b->e.fp b\/w.heap.size<=b)(V:base<=w.heap.size):cF base B w' S' (e' ::O):=
 ⟨⟨hp,fun b hb' =>(hn b hb').elim (fun H=>h.1.2 b H) (fun H=> .inl (by omega))⟩,fun f M b hb' hfb=>(hn b hb').elim (fun H=>h.2.1 f M b H hfb) (fun H=>by
  have:=f.here (cF.mem h.2.2 f M).1 b hfb
  omega),h.2.2.ext k fun f M b hb' H=>h.2.1 f M b H hb'⟩
def Dp{σ:Type}{args:α->List Ty}{y:α->σ->Option (Bool×σ)}{hx:σ->OE->Prop}{yv:Value}{x:α}{s:σ}{r:Bool×σ}{e:OE}{fo:Operand}{xs:List Operand}(hy:Im E.P args y hx yv)(he:hx s e)(hq:y x s=some r)(M:aD E.N G fo (tV yv))(I:ew E.N G xs (args x))(hd:Nat.blt d E.N.n=true)(k: ∀e',hx r.2 e' ->RG E ops Q rest (e' ::O) ((d,X rB r.1)::G)):RG E ops Q (⟨some d,.call ⟨.value fo,xs.toArray,ats⟩,ty,pos,after,none⟩::rest) (e::O) G:= .of rfl fun a w S st=>by
 obtain⟨l,rfl,hyl⟩:=hy
 have Y:a.eval fo= .func (.yield l) #[] #[]:=M S a st.facts
 obtain⟨f,tmps,assign,body,H,h3⟩:=hyl x s r hq e he w S _ st.sat st.own.1.1 (I.tys st.facts)
 have hr:(execOp a.eval ⟨some d,.call ⟨.value fo,xs.toArray,ats⟩,ty,pos,after,none⟩).run E.P w= .ok (.round l f tmps assign body) w:=by
  simp [execOp,resolve,Y,Deferred.ofValue,invoke]
  simpa using H
 refine⟨fun c h=>(by cases h),?_⟩
 rw [hr]
 refine h3.mono fun en w' ⟨e',S',h4,h5,h6,h7,h8,h9⟩=>⟨_,h4,?_⟩;exact k e' h5 _ _ S' ⟨st.ext.step h6 (fun b V=>st.own.1.2 b V),h7,Cu st.own h6 h8 h9 st.base_le,(st.facts.mono h6.keep).put hd (fz.2 rfl)⟩
end
def AA:List OE->List OE->Prop
 |[],_=>True
 |f::O,g::O' =>(∀k,f.fp k->g.fp k)/\AA O O'
 |_::_,[]=>False
variable{g:Option (Nat×Bool)}
def AA.mem: ∀{O O' :List OE},AA O O' -> ∀k,(∃f∈O,f.fp k)-> ∃f∈O',f.fp k
 |f::O,g::O',⟨Y,H⟩,k,⟨q,hq,hk⟩=>by
  rcases eV.1 hq with e|e
  ·subst e;exact⟨g,k5 ..,Y k hk⟩
  ·obtain⟨q',h3,h4⟩:=AA.mem H k ⟨q,e,hk⟩
   exact⟨q',nf _ h3,h4⟩

variable{O1:List OE}{ι:Type}{O2:ι->List OE}
def jB: ∀{O1 O2:List OE},cF base B w S (O1++O2)->cF base B w S O1/\cF base B w S O2/\ ∀e∈O1,∀f∈O2,e.apart f
 |[],_,h=>⟨trivial,h,fun _ h=>(by cases h)⟩
 |e::O1,O2,⟨Y,H,h3⟩=>by
  obtain⟨k1,k2,k3⟩:=jB h3
  refine⟨⟨Y,fun f M=>H f (AZ _ M),k1⟩,k2,fun g Z f M=>?_⟩
  rcases eV.1 Z with rfl|Z
  ·exact H f (List.mem_append_right _ M)
  ·exact k3 g Z f M
def cF.cons{e:OE}(Y:e.holds base B w S)(H: ∀f∈O,e.apart f)(h3:cF base B w S O):cF base B w S (e::O):=⟨Y,H,h3⟩

section
section
variable{ty:TypeId}
end
end

def yf:List Nat->List Ty->gJ->gJ
 |d::ds,t::ts,G=>yf ds ts ((d,t)::G)
 |_,_,G=>G
variable{N:Nat}
def uN{N:Fr}{S:SH}: ∀(ds:List Nat) (ts:List Ty) (vs:List Value) (a:Act) (G:gJ),ds.length=ts.length->pm S ts vs->(ds.all fun d=>Nat.blt d N.n)=true->db N S a G->
  db N S {tmps:=(ds.zip vs).foldl (fun t (p:Nat×Value)=>t.setIfInBounds p.1 p.2) a.tmps,defers:=a.defers} (yf ds ts G)
 |[],_,_,_,_,hl,_,_,hF=>by
  cases ra hl.symm
  simpa [yf] using hF
 |d::ds,[],_,_,_,hl,_,_,_=>by simp at hl
 |d::ds,t::ts,[],_,_,_,hv,_,_=>hv.elim
 |d::ds,t::ts,v::vs,a,G,hl,⟨Y,H⟩,hd,hF=>by
  simp only [List.all_cons,kA]at hd
  have:=uN ds ts vs (a.put (some d) v) ((d,t)::G) (by simpa using hl) H hd.2 (hF.put hd.1 Y)
  simpa [yf,Act.put] using this
def Ib(E:En)(l:Nat)(body:Code)(R:Ending->World->Prop):Exit->Act->World->Prop:=
 Exit.then (fun a₁ w₁=> ∃w₂,(Instr.beginRound l).run E.P w₁= .ok () w₂/\body.wpIn (fw E.r) 0 E.P (roundPost E.P l R) a₁ w₂) (fun _ _ _=>False)
section
def tp{ps:Array Nat}{vs:List Value}{tmps:Array Value}:(ps.zip vs.toArray).foldl (fun t (p,v)=>t.setIfInBounds p v) tmps=(ps.toList.zip vs).foldl (fun t (p:Nat×Value)=>t.setIfInBounds p.1 p.2) tmps:=by
 rw [<-Array.foldl_toList]
 simp
end

variable{S0:SH}{fn:Func}{w0:World}
section
variable{R:Ending->World->Prop}{ds:List Deferred}
def vb(h:AT ⟨P,⟨N,[]⟩,B,w0,S0,none⟩ (bodyPost P fn R) .ret O G):AT ⟨P,⟨N,[]⟩,B,w0,S0,none⟩ (bodyPostM (fw none) 0 P fn R) .ret O G:=fun a w S st=>by
 obtain⟨Y,v,H,h3⟩:=h a w S st
 show LeavesInM (fw none) 0 P fn a.tmps R a.defers .returning w
 rw [Y]
 exact⟨v,H,h3⟩
def AV(h:AT ⟨P,⟨N,ds⟩,B,w0,S0,none⟩ (bodyPostM (fw none) 0 P fn R) .ret O G):AT ⟨P,⟨N,sW b::ds⟩,B,w0,S0,none⟩ (bodyPostM (fw none) 0 P fn R) .ret (zX b::O) G:=fun a w S st=>by
 show LeavesInM (fw none) 0 P fn a.tmps R a.defers .returning w
 rw [st.facts.defers]
 obtain⟨hno,V⟩:=st.own.1.1
 have hlt:=(qz.1 V).1
 have hext:ez (fun k=>k=b) w S (w.putObj b (.deferred none)) S:=⟨rfl,rfl,rfl,iZ _,by simp,fun k _ hk=>World.putObj_heap_other hk,SH.le_refl _,fun _ _ _=>rfl⟩
 have hsat:gc (w.putObj b (.deferred none)) S:=st.sat.same fun k o hk=>by
  have hne:k≠b:=fun e=>by subst e;rw [hno]at hk;cases hk
  exact World.putObj_heap_other hne
 have:=h {a with defers:=ds} (w.putObj b (.deferred none)) S ⟨st.ext.step hext (fun c hc=>st.own.1.2 c hc),hsat,st.own.2.2.ext hext (fun g Z k hk hkb=>st.own.2.1 g Z k hkb hk),⟨st.facts.size,rfl,st.facts.at_⟩⟩
 exact⟨by simp,.inl ⟨b,_,rfl,run_takeDeferred V,this⟩⟩
end
def Do{t:Ty}(M:P.funcs[f]? =some fn)(V:fn.body=some c)(hN:fn.ntmps=N)(hn:Nat.ble ts.length N=true)(h: ∀w0 S0,CG ⟨P,⟨N,[]⟩,la,w0,S0,none⟩ (bodyPostM (fw none) 0 P fn (vD ⟨P,⟨N,[]⟩,la,w0,S0,none⟩ t)) c [] (ol 0 ts)):cj P f ts t:=by
 subst hN
 intro w S vs hs hv
 exact jo.1 (callsIn_of_wp_marks (F:=fw none) (n:=0) M V trivial (h w S _ w S ⟨ez.refl _ _ _,hs,trivial,lv hv _ (lL hn)⟩))

def rT(t:Ty):Rp Unit where
 sz:=1
 agg:=false
 rc:=fun S cs _=> ∃v,cs=[v]/\v.oneCell' =true/\t.p S v
 mono:=fun h ⟨v,e,k,l⟩=>⟨v,e,k,t.mono h l⟩
 len:=fun⟨_,e,_⟩=>by rw [e];rfl
 one:=fun⟨v,e,k,_⟩ c hc=>by rw [e]at hc;simp at hc;subst hc;exact k
 sc:=fun _=>rfl
def tRT{t:Ty}{u:Unit}{v:Value}:(X (rT t) u).p S v↔v.oneCell' =true/\t.p S v:=by
 constructor
 ·rintro⟨cs,rfl,w,rfl,Y,H⟩;exact⟨Y,H⟩
 ·rintro⟨Y,H⟩;exact⟨[v],rfl,v,rfl,Y,H⟩
variable{aT U:TypeId}{agg:Bool}{bytes cap:Nat}{dst:Option Tmp}{get:α->β}{k' :IntKind}{lo:Int}{off sz:Nat}{ys:List α}{z:List Value}
section
variable{ty:TypeId}
def bJ.imp{t u:Ty}(h:bJ E O G o t)(k: ∀S v,t.p S v->u.p S v):bJ E O G o u:=fun a w S hs ho M=>
 jv (fun _ _ ⟨v,S',Y,H,h3,h4⟩=>⟨v,S',Y,H,h3,k S' v h4⟩) (h a w S hs ho M)
def CA{t:Ty}{p:Operand}(ti:TI E.P U 1 bytes false z)(hp:aD E.N G p (bp (rT t) ())):bJ E O G ⟨dst,.load U p,ty,pos,after,g⟩ t:=
 (d6 (r:=rT t) (x:=()) ti rfl rfl hp).imp fun _ _ h=>(tRT.1 h).2

def Cp:rV.rc S [.slice none 0 0] (aM none 0 0):=⟨rfl,rfl⟩
def uH{N:Fr}(h:aD N G x (tV (aM l cap n))):aD N G x (X rV (aM l cap n)):=fun S a M=>mA.2 ⟨h S a M,by cases l<;>rfl⟩
def iu{p:Operand}(ti:TI E.P U 1 bytes false z)(hm:bx rV aT b (aM l cap n)∈O)(hp:aD E.N G p (tV (aq b 0))):
  bJ E O G ⟨dst,.load U p,ty,pos,after,g⟩ (tV (aM l cap n)):=(be (q:=rV) (get:=fun x=>x) ti rfl rfl bC hm hp).imp fun _ _ h=>(mA.1 h).1

def cW{α:Type}(xs:List α)(lo hi:Int):Option (List α):=if 0<=lo/\lo<=hi/\hi<=(xs.length:Int)then some ((xs.take hi.toNat).drop lo.toNat)else none
def dH(h:cW xs lo hi=some ys): ∃l m:Nat,lo=l/\hi=m/\l<=m/\m<=xs.length/\ys=(xs.take m).drop l:=by
 unfold cW at h
 split at h
 ·rename_i hc
  exact⟨lo.toNat,hi.toNat,by omega,by omega,by omega,by omega,by simpa using h.symm⟩
 ·cases h
def qH{a:Option Addr}{l:Nat}(h:xV r S a xs)(hl:l<=m)(hm:m<=xs.length)(hc:xs.length<=cap):
  xV r S (if cap=l then a else a.map (·.add (l*r.sz))) ((xs.take m).drop l):=by
 by_cases hlm:l=m
 ·left;subst hlm;simp
 right
 rcases h with h|⟨b,off,c,aT,fr,e1,e2,e3⟩
 ·subst h;simp at hm;omega
 subst e1
 have hne: ¬(cap=l):=by omega
 refine⟨b,off+l*r.sz,c,aT,fr,?_,e2,?_⟩
 ·rw [ei hne];simp [Addr.add]
 have hlen:((xs.take m).drop l).length=m-l:=by simp;omega
 have e4:xs=(xs.take m).take l++((xs.take m).drop l++xs.drop m):=by
  rw [<-jI,pe,pe]
 have Y:((xs.take m).take l).length=l:=by simp;omega
 rw [e4]at e3
 have H:=(lk e3).2
 have h3:=(lk H).1
 rw [Y]at h3
 rw [hlen]at h3 ⊢
 rw [<-e4]at h3
 rw [td,q5,lW]at h3
 have hmin:min ((m-l)*r.sz) (xs.length*r.sz-l*r.sz)=(m-l)*r.sz:=by
  rw [<-Nat.sub_mul];exact qx (q9 _ (by omega))
 rwa [hmin]at h3
def eZ{n:Int}{y:Nat}{code:BoundsCode}(h0:0<=n)(Y:n<=y):(Instr.sliceBound (.int k n) y code).run P w= .ok n.toNat w:=by
 simp [Instr.sliceBound,asIntOf,h0,Y]
def vO{lo hi:Operand}{i:Int}(D:E.P.underlying t=some (.slice aT))(ti:TI E.P aT sz bytes agg z)(hsz:r.sz=sz)(I:aD E.N G x (X (eY r) xs))(hlo:aD E.N G lo (X (rI k) i))(hhi:aD E.N G hi (X (rI k') j))(h:cW xs i j=some ys):bJ E O G ⟨dst,.slice t x (some lo) (some hi) none,ty,pos,after,g⟩ (X (eY r) ys):=
 .of_pure fun a w S _ _ M=>by
  subst hsz
  obtain⟨ad,cap,Y,H,h3,h4⟩:=iS.1 (I S a M)
  have h5:=dG.1 (hlo S a M)
  have h6:=dG.1 (hhi S a M)
  obtain⟨l,m,rfl,rfl,h7,h8,rfl⟩:=dH h
  have hlen:((xs.take m).drop l).length=m-l:=by simp;omega
  refine⟨.slice (if cap=l then ad else ad.map (·.add (l*r.sz))) (m-l) (cap-l),?_,iS.2 ⟨_,cap-l,by rw [hlen],by omega,by omega,qH h4 h7 h8 H⟩⟩
  simp [execOp,Instr.sliceAt,Y,h5,h6,Instr.slice,gy D,Instr.sliceBounds,eZ (k:=k') (n:=(m:Int)) (y:=cap) (by omega) (by omega),eZ (k:=k) (n:=(l:Int)) (y:=m) (by omega) (by omega),ti.sizeOf]
def zE{hi:Operand}(D:E.P.underlying t=some (.slice aT))(ti:TI E.P aT sz bytes agg z)(hsz:r.sz=sz)(I:aD E.N G x (X (eY r) xs))(hhi:aD E.N G hi (X (rI k') j))(h:cW xs 0 j=some ys):bJ E O G ⟨dst,.slice t x none (some hi) none,ty,pos,after,g⟩ (X (eY r) ys):=
 .of_pure fun a w S _ _ M=>by
  subst hsz
  obtain⟨ad,cap,Y,H,h3,h4⟩:=iS.1 (I S a M)
  have h6:=dG.1 (hhi S a M)
  obtain⟨l,m,hl,rfl,h7,h8,rfl⟩:=dH h
  have hl0:l=0:=by omega
  subst hl0
  have hlen:((xs.take m).drop 0).length=m-0:=by simp;omega
  refine⟨.slice (if cap=0 then ad else ad.map (·.add (0*r.sz))) (m-0) (cap-0),?_,iS.2 ⟨_,cap-0,by rw [hlen],by omega,by omega,qH h4 h7 h8 H⟩⟩
  simp [execOp,Instr.sliceAt,Y,h6,Instr.slice,gy D,Instr.sliceBounds,eZ (k:=k') (n:=(m:Int)) (y:=cap) (by omega) (by omega),ti.sizeOf]
def zD{lo:Operand}{i:Int}(D:E.P.underlying t=some (.slice aT))(ti:TI E.P aT sz bytes agg z)(hsz:r.sz=sz)(I:aD E.N G x (X (eY r) xs))(hlo:aD E.N G lo (X (rI k) i))(h:cW xs i (xs.length:Int)=some ys):bJ E O G ⟨dst,.slice t x (some lo) none none,ty,pos,after,g⟩ (X (eY r) ys):=
 .of_pure fun a w S _ _ M=>by
  subst hsz
  obtain⟨ad,cap,Y,H,h3,h4⟩:=iS.1 (I S a M)
  have h5:=dG.1 (hlo S a M)
  obtain⟨l,m,rfl,hm,h7,h8,rfl⟩:=dH h
  have hm' :m=xs.length:=by omega
  subst hm'
  have hlen:((xs.take xs.length).drop l).length=xs.length-l:=by simp
  refine⟨.slice (if cap=l then ad else ad.map (·.add (l*r.sz))) (xs.length-l) (cap-l),?_,iS.2 ⟨_,cap-l,by rw [hlen],by omega,by omega,qH h4 h7 h8 H⟩⟩
  simp [execOp,Instr.sliceAt,Y,h5,Instr.slice,gy D,Instr.sliceBounds,eZ (k:=k) (n:=(l:Int)) (y:=xs.length) (by omega) (by omega),ti.sizeOf]
end
def jr{id:Nat}(m:Nat)(hm:E.P.follows .mixedOrders=true)(hsl:oB E.N.n [] (L.take m)=true)(hlen:ts.length=(L.take m).length)(D:qm L (L.take m).length (L.drop m).length=true)(hd:DR E O G L ts 0 (L.take m))(k:RG E L.toArray Q (L.drop m) O (zB (L.take m) ts G)):CG E Q (.region id L.toArray true) O G:=Dx (pe m L).symm hm hsl hlen D hd k

def iY(P:Program){α:Type} [DecidableEq α](t:TypeId)(r:Rp α)(n:Nat):Prop:=
 ∀(S:SH) (cs ds:List Value) (x y:α) (d:Nat) (w:World),r.rc S cs x->r.rc S ds y->(Op.equalIn (d+n) t (r.val cs) (r.val ds)).run P w= .ok (decide (x=y)) w
def nN(h:P.underlying t=some (.int k')):iY P t (rI k) (n+1):=fun S cs ds x y d w I hy=>by
 have Y:cs=[.int k x]:=I
 have H:ds=[.int k y]:=hy
 subst Y H
 have:(Op.equalIn (d+n+1) t (.int k x) (.int k y)).run P w= .ok (x==y) w:=by simp [Op.equalIn,gy h]
 have e:(x==y)=decide (x=y):=by by_cases h:x=y<;>simp [h]
 rw [e]at this
 exact this
def EO(h:P.underlying t=some .string):iY P t rS (n+1):=fun S cs ds x y d w I hy=>by
 have Y:cs=[.string ⟨x.toArray⟩]:=I
 have H:ds=[.string ⟨y.toArray⟩]:=hy
 subst Y H
 have:=run_equalIn_string (P:=P) w (d+n) t ⟨x.toArray⟩ ⟨y.toArray⟩ h
 simp only [Rp.val,rS,List.headD_cons,rZ,ov]
 rw [show d+(n+1)=d+n+1 from rfl,this]
 simp only [ByteArray.toList_eq]
 by_cases e:x=y<;>simp [e]
abbrev Fd:=TypeId×Nat×Bool
def zL(f:Field):Fd:=(f.type,f.offset,f.name== "_")
def By(d:Nat)(xs ys:Array Value):List Fd->Sem Bool
 |[]=>pure true
 |f::fs=>
  if f.2.2=false then do
   let a<-part f.1 xs f.2.1
   let b<-part f.1 ys f.2.1
   let r<-Op.equalIn d f.1 a b
   if(!r)=true then pure false else By d xs ys fs
  else By d xs ys fs
def yM(d:Nat)(xs ys:Array Value): ∀fs:List Field,Op.eqFields d xs ys fs=By d xs ys (fs.map zL)
 |[]=>rfl
 |f::fs=>by
  unfold Op.eqFields By
  rw [yM d xs ys fs]
  by_cases h:f.name= "_"
  ·have e:((zL f).2.2=false)=False:=by simp [zL,h]
   simp only [wu,e,ov]
   rw [ei (by simpa using h)]
  ·have e:((zL f).2.2=false)=True:=by simp [zL,h]
   simp only [wu,e,ni]
   rw [eF (by simpa using h)]
   rfl
def yZ(P:Program){α:Type}(r:Rp α)(n:Nat)(fs:List Fd)(c:α->α->Bool):Prop:=
 ∀(S:SH) (cs ds:List Value) (x y:α) (d:Nat) (w:World),r.rc S cs x->r.rc S ds y->(By (d+n) cs.toArray ds.toArray fs).run P w= .ok (c x y) w
def yZ.nil:yZ P r n [] (fun _ _=>true):=fun _ _ _ _ _ _ _ _ _=>rfl
def mC(ti:TI P t sz bytes agg z)(hsz:q.sz=sz)(hag:q.agg=agg)(M:jE r off q get){cs:List Value}{x:α}(I:r.rc S cs x)(w:World):
  (part t cs.toArray off).run P w= .ok (q.val ((cs.drop off).take q.sz)) w:=by
 have h:=M S cs x I
 have hl:=q.len h
 subst hsz hag
 unfold part
 by_cases ha:q.agg=true
 ·have e1:=ti.isAgg w
  simp only [ow,e1,ha,pp,ni,ti.sizeOf,Sem.run_pure]
  unfold Rp.val
  rw [eF ha]
  congr 2
  apply Array.ext'
  simp
 ·rw [q8]at ha
  have e1:=ti.isAgg w
  have hs1:=q.sc ha
  simp only [ow,e1,ha,pp,rZ,ov]
  rw [hs1]at hl ⊢
  obtain⟨v,hv⟩:=List.length_eq_one_iff.1 hl
  have hc:cs[off]? =some v:=by
   have:((cs.drop off).take 1)[0]? =some v:=by rw [hv];rfl
   rw [tN (by omega),qg]at this
   simpa using this
  unfold Rp.val
  rw [hv,ha]
  simp [hc]
def yZ.cons [DecidableEq β]{t:Nat}{fs:List Fd}{c:α->α->Bool}(ti:TI P t sz bytes agg z)(hsz:q.sz=sz)(hag:q.agg=agg)(M:jE r off q get)(he:iY P t q n)(hr:yZ P r n fs c):
  yZ P r n ((t,off,false)::fs) (fun x y=>decide (get x=get y)&&c x y):=fun S cs ds x y d w I hy=>by
 have Y:=mC ti hsz hag M I w
 have H:=mC ti hsz hag M hy w
 have h3:=he S _ _ _ _ d w (M S cs x I) (M S ds y hy)
 unfold By
 simp only [ni,ow,Y,H,h3,pp]
 by_cases e:get x=get y
 ·simp only [e,decide_true,po,rZ,ov,tQ]
  exact hr S cs ds x y d w I hy
 ·simp [e]
def uR [DecidableEq α]{t:Nat}{fs:List Fd}{c:α->α->Bool}(D:(P.underlying t).map (fun d=>match d with| .struct l=>(true,l.toList.map zL)|_=>(false,[]))=some (true,fs))(hp:P.stoodInHeld t=false)(ha:r.agg=true)(hr:yZ P r n fs c)(hc: ∀x y,c x y=decide (x=y)):iY P t r (n+1):=fun S cs ds x y d w I hy=>by
 obtain⟨l,Y,H⟩: ∃l,P.underlying t=some (.struct l)/\l.toList.map zL=fs:=by
  cases hu:P.underlying t with
  |none=>rw [hu]at D;cases D
  |some d=>
   rw [hu]at D
   cases d<;>simp at D
   exact⟨_,rfl,D⟩
 have hfo:P.fieldsOf t=l:=by unfold Program.fieldsOf;rw [Y]
 have:=run_equalIn_struct (P:=P) w (d+n) t cs.toArray ds.toArray (by rw [hfo];exact Y) hp
 rw [mz ha,mz ha,show d+(n+1)=d+n+1 from rfl,this,hfo,yM,H,hr S cs ds x y d w I hy,hc]
def iy [DecidableEq α](h:iY P t r n)(m:Nat):iY P t r (m+n):=fun S cs ds x y d w I hy=>by
 have:=h S cs ds x y (d+m) w I hy
 rwa [Nat.add_assoc]at this
def DE.of [DecidableEq α](Z:P.eqGuardType P.depth t=false)(h:iY P t r 20):DE P t r:=⟨Z,fun S cs ds x y d w I hy=>h S cs ds x y d w I hy⟩

def Dc{l:List α}{e:α}(h:xs.drop i=e::l):decide ((i:Int)<(xs.length:Int))=true:=by
 have:i<xs.length:=by
  rcases iH i xs.length with h' |h'
  ·exact h'
  ·rw [wz h']at h;cases h
 simp;omega
def Ff(h:xs.drop i=[]):decide ((i:Int)<(xs.length:Int))=false:=by
 have:=wy.1 h
 simp;omega
def cI{l:List α}{e:α}(h:xs.drop i=e::l):xs.drop (i+1)=l:=by
 rw [<-lW,h];rfl
def dm{l:List α}{e:α}(h:xs.drop i=e::l):eG xs (i:Int)=some e:=by
 rw [iW]
 have:=qg (xs:=xs) (i:=i) (j:=0)
 rw [h]at this
 simpa using this.symm
def AJ{l:List α}{e:α}(h:xs.drop i=e::l)(hN:xs.length<=maxLen):i<9223372036854775807:=by
 have:=of_decide_eq_true (Dc h)
 simp only [maxLen]at hN
 omega
def FP{k:Nat}(h:N-i=k+1):decide ((i:Int)<(N:Int))=true:=by simp;omega
def FQ(h:N-i=0):decide ((i:Int)<(N:Int))=false:=by simp;omega
def CC{k:Nat}(h:N-i=k+1):N-(i+1)=k:=by omega
def CD{k:Nat}(h:N-i=k+1)(hN:N<=9223372036854775807):i<9223372036854775807:=by omega
def G4(h:n<=maxLen):n<=9223372036854775807:=by simp only [maxLen]at h;omega
variable{ix:Operand}{mm:Bool}{zs:List α}
section
variable{e:Exit}
section
variable{ty:TypeId}
def p3{one:Operand}{xt yt:TypeId}(hi:i<9223372036854775807)(I:aD E.N G x (X (rI .i64) (i:Int)))(Y:aD E.N G one (X (rI .i64) 1)):
  bJ E O G ⟨dst,.binOp .add xt x one yt,ty,pos,after,g⟩ (X (rI .i64) ((i+1:Nat):Int)):=by
 have e:IntKind.i64.wrap ((i:Int)+1)=((i+1:Nat):Int):=by
  rw [IntKind.wrap_i64];omega
 have:=eh (E:=E) (O:=O) (dst:=dst) (ty:=ty) (pos:=pos) (after:=after) (g:=g) (xt:=xt) (yt:=yt) I Y
 rwa [e]at this
end
def d7(hm:gI mm r aT l cap xs∈O)(h:xs.length<=maxLen->CG E Q c O G):CG E Q c O G:=fun a w S st=>by
 refine h ?_ a w S st
 obtain⟨cells,Y,_⟩:=(st.own.mem _ hm).1
 cases l with
 |none=>have:=Y.1;omega
 |some b=>obtain⟨cur,_,g2,g3,_⟩:=Y;exact ve g2 g3
def St.dataAt{k:Nat}(h:St E O G a w S)(hk:bu G k=some (tO r l cap xs)):St E O ((k,X (eY r) xs)::G) a w S:=h.cons (h.facts.at_ k _ hk).2
def BW(k:Nat)(hk:bu G k=some (tO r l cap xs))(h:CG E Q c O ((k,X (eY r) xs)::G)):CG E Q c O G:=fun a w S st=>h a w S (st.dataAt hk)
def iG(k:Nat)(hk:bu G k=some (tO r l cap xs))(h:AT E Q e O ((k,X (eY r) xs)::G)):AT E Q e O G:=fun a w S st=>h a w S (st.dataAt hk)
def gu(l:Option Nat)(off:Nat):Value:=
 match l with
 |none=> .pointer none
 |some b=>aq b off
def lN(h:tu mm r aT l cap xs w S){e:α}(hi:xs[i]? =some e):
  ∃b cur,l=some b/\w.heap[b]? =some (.cells cur aT (0,0))/\xs.length<=cap/\cur.size=cap*r.sz/\r.rc S ((cur.toList.drop (i*r.sz)).take r.sz) e:=by
 obtain⟨cells,Y,H,_⟩:=h
 have hlt:=(mH.1 hi).1
 cases l with
 |none=>have:=Y.1;omega
 |some b=>
  obtain⟨cur,g1,g2,g3,g4,g5⟩:=Y
  refine⟨b,cur,rfl,g1,g2,g4,?_⟩
  have h3:=oJ H hi
  rw [<-g5,td,q5]at h3
  have h4:i*r.sz+r.sz<=xs.length*r.sz:=by
   rw [<-Nat.succ_mul];exact q9 _ hlt
  rwa [qx (by omega)]at h3
def fy{i:Int}{e:α}(h:eG xs i=some e):0<=i/\xs[i.toNat]? =some e:=by
 unfold eG at h
 split at h
 ·exact⟨by assumption,h⟩
 ·cases h
section
variable{ty:TypeId}
def bI{e:TypeId}{i:Int}(D:E.P.underlying t=some (.slice e))(ti:TI E.P e sz bytes agg z)(hm:gI mm r U l cap xs∈O)(I:aD E.N G x (tV (aM l cap n)))(hi:aD E.N G ix (X (rI k) i))(hy:eG xs i=some y)(hn:n=xs.length:=by rfl):
  bJ E O G ⟨dst,.indexAddr t x ix,ty,pos,after,g⟩ (tV (gu l (i.toNat*sz+0))):=
 .of_pure fun a w S _ ho M=>by
  subst hn
  have Y:a.eval x=aM l cap xs.length:=I S a M
  have h3:a.eval ix= .int k i:=dG.1 (hi S a M)
  obtain⟨h0,hy'⟩:=fy hy
  obtain⟨b,cur,rfl,_⟩:=lN (ho.mem _ hm).1 hy'
  have hlt:i.toNat<xs.length:=(mH.1 hy').1
  refine⟨_,?_,rfl⟩
  have hc:0<=i/\i<(xs.length:Int):=⟨h0,by omega⟩
  simp [execOp,Y,h3,aM,Instr.indexAt,asIntOf,gy D,hc,ti.sizeOf,fe,gu,aq]
def cD{foff:Nat}{i:Int}{p:Operand}(ti:TI E.P aT sz bytes agg z)(hsz:q.sz=sz)(hag:q.agg=agg)(hget:jE r foff q get)(hoff:Nat.ble (foff+q.sz) r.sz=true)(hm:gI mm r U l cap xs∈O)(hy:eG xs i=some y)(hp:aD E.N G p (tV (gu l (i.toNat*r.sz+foff)))):bJ E O G ⟨dst,.load aT p,ty,pos,after,g⟩ (X q (get y)):=
 .of_pure fun a w S _ ho M=>by
  have Y:a.eval p=gu l (i.toNat*r.sz+foff):=hp S a M
  obtain⟨h0,hy'⟩:=fy hy
  obtain⟨b,cur,rfl,V,_,_,h6⟩:=lN (ho.mem _ hm).1 hy'
  have hoff' :=lL hoff
  have h7:=hget S _ _ h6
  rw [td,q5,lW,qx (by omega)]at h7
  refine⟨_,?_,_,rfl,h7⟩
  simp [execOp,Y,gu,aq,Instr.loadAt,Instr.sureAddr,fa ti V hsz hag h7]
def vx{o:Nat}{p:Operand}(M:co E.P aT i=some (off,sz))(h0:Nat.beq sz 0=false)(hm:gI mm r U l cap xs∈O)(hy:eG xs j=some y)(hp:aD E.N G p (tV (gu l o))):
  bJ E O G ⟨dst,.fieldAddr aT p i,ty,pos,after,g⟩ (tV (gu l (o+off))):=
 .of_pure fun a w S _ ho hF=>by
  have Y:a.eval p=gu l o:=hp S a hF
  obtain⟨_,hy'⟩:=fy hy
  obtain⟨b,cur,rfl,_⟩:=lN (ho.mem _ hm).1 hy'
  obtain⟨fs,f,e1,e2,e3,e4⟩:=sn M
  have h0' :sz≠0:=fun e=>by subst e;simp at h0
  refine⟨_,?_,rfl⟩
  simp [execOp,Y,gu,aq,Instr.fieldAt,gy e1,e2,Instr.sureAddr,fieldPlace,e4,h0',e3,fe]
end
def ro{α:Type}{r:Rp α}{S:SH}{y:α}{c:List Value}(hc:r.rc S c y): ∀{xs:List α} {i:Nat} {cs:List Value},mD r S cs xs->i<xs.length->mD r S (cs.take (i*r.sz)++c++cs.drop (i*r.sz+r.sz)) (xs.set i y)
 |[],_,_,_,h=>by simp at h
 |x::xs,0,cs,⟨a,b,e,Y,H⟩,_=>by
  have hl:=r.len Y
  refine⟨c,b,?_,hc,H⟩
  rw [e,<-hl];simp
 |x::xs,i+1,cs,⟨a,b,e,Y,H⟩,h=>by
  have hl:=r.len Y
  have ih:=ro hc H (i:=i) (by simpa using h)
  refine⟨a,_,?_,Y,ih⟩
  have e1:(i+1)*r.sz=a.length+i*r.sz:=by rw [hl,pn];omega
  rw [e,e1,List.take_length_add_append,Nat.add_assoc,List.drop_length_add_append]
  simp
def jA{set:α->β->α}{foff:Nat}{v:β}{i:Int}{p:Operand}{ty:TypeId}(ti:TI E.P aT sz bytes agg z)(hsz:q.sz=sz)(hset:ff r foff q set)(hoff:Nat.ble (foff+q.sz) r.sz=true)(hy:eG xs i=some y)(hz:xs.set i.toNat (set y v)=zs)(hp:aD E.N G p (tV (gu l (i.toNat*r.sz+foff))))(I:aD E.N G x (X q v))(k:RG E ops Q rest (dX r U l cap zs::O) G):
  RG E ops Q (⟨none,.store aT p x,ty,pos,after,none⟩::rest) (dX r U l cap xs::O) G:= .of rfl fun a w S st=>by
 subst hz
 have Y:a.eval p=gu l (i.toNat*r.sz+foff):=hp S a st.facts
 obtain⟨ds,H,h3⟩:=I S a st.facts
 obtain⟨h0,hy'⟩:=fy hy
 have hlt:i.toNat<xs.length:=(mH.1 hy').1
 obtain⟨cells,hraw,hrc,hno⟩:=st.own.1.1
 obtain⟨b,cur,rfl,V,hle,hcs,h6⟩:=lN st.own.1.1 hy'
 obtain⟨cur',hb',hle',hmax,hcs',hct⟩:=hraw
 have hcc:cur' =cur:=by rw [V]at hb';injection hb' with e;injection e with e1;exact e1.symm
 subst hcc
 have hno' :S b=none:=hno b rfl
 have hoff' :=lL hoff
 have hl3:=q.len h3
 have hmul:i.toNat*r.sz+r.sz<=xs.length*r.sz:=by rw [<-Nat.succ_mul];exact q9 _ hlt
 have hmul2:xs.length*r.sz<=cur'.size:=by rw [hcs];exact q9 _ hle
 obtain⟨w',hr,e1,e2,e3,e4,e5,e6⟩:=fk ti hsz h3 V (off:=i.toNat*r.sz+foff) (by omega)
 have hrun:(execOp a.eval ⟨none,.store aT p x,ty,pos,after,none⟩).run E.P w= .ok .skip w' :=by
  simp [execOp,Y,H,Instr.storeAt,gu,aq,Instr.sureAddr,hr]
 refine⟨fun c h=>(by cases h),?_⟩
 rw [hrun]
 have hnew:=hset S _ _ _ _ h6 h3
 have hrc' :=ro hnew hrc hlt
 have hcl:=ju hrc
 have hcells:(cur'.toList.take (i.toNat*r.sz+foff)++ds++cur'.toList.drop (i.toNat*r.sz+foff+q.sz)).take (xs.length*r.sz)=
   cells.take (i.toNat*r.sz)++(((cur'.toList.drop (i.toNat*r.sz)).take r.sz).take foff++ds++((cur'.toList.drop (i.toNat*r.sz)).take r.sz).drop (foff+q.sz))++cells.drop (i.toNat*r.sz+r.sz):=by
  subst hct
  apply xI
  intro j
  simp only [List.getElem?_take,List.getElem?_append,qg,ww,xF,hT,xG]
  rcases iH j (xs.length*r.sz)with hj|hj
  ·simp only [hj,ni]
   rcases iH j (i.toNat*r.sz)with hj1|hj1
   ·rw [eF (by omega),eF (by omega),eF (by omega),eF (by omega),eF (by omega),eF (by omega)]
   ·rcases iH j (i.toNat*r.sz+foff)with hj2|hj2
    ·rw [eF (by omega),eF (by omega),eF (by omega),eF (by omega),ei (by omega),eF (by omega),eF (by omega),eF (by omega),eF (by omega)]
     congr 1;omega
    ·rcases iH j (i.toNat*r.sz+foff+q.sz)with hj3|hj3
     ·rw [eF (by omega),ei (by omega),eF (by omega),ei (by omega),eF (by omega),ei (by omega)]
      congr 1;omega
     ·rw [ei (by omega)]
      rcases iH j (i.toNat*r.sz+r.sz)with hj4|hj4
      ·rw [eF (by omega),ei (by omega),ei (by omega),eF (by omega)]
       congr 1;omega
      ·rw [ei (by omega),eF (by omega)]
       congr 1;omega
  ·rw [ei (by omega),ei (by omega),ei (by omega)]
 obtain⟨g1,g2,g3⟩:=kq (O:=O) st.sat (dX r U (some b) cap xs) (dX r U (some b) cap (xs.set i.toNat (set y v))) st.own (fun k=>⟨fun h=>(my h).symm,fun h=>by rw [h];rfl⟩) (fun k=>⟨fun h=>(my h).symm,fun h=>by rw [h];rfl⟩) ⟨e1,e2,e3,e4.1,e4.2⟩ e6
  ⟨_,⟨_,e5,by rw [vF];exact hle,hmax,by simp only [AX,hT,ww,xF,xG];omega,by rw [vF];exact hcells⟩,hrc',fun k hk=>by rw [<-my hk];exact hno'⟩ hno'
 exact k _ _ S ⟨st.ext.step g1 (fun c hc=>st.own.1.2 c (by rw [hc];rfl)),g2,g3,st.facts⟩

def jU(sz:Nat)(l:Option Nat)(cap lo n:Nat):Value:=
 match l with
 |none=> .slice none 0 0
 |some b=> .slice (some ⟨b,if cap=lo then 0 else lo*sz,none⟩) n (cap-lo)
section
variable{ty:TypeId}
def vM(h:tu mm r U l cap xs w S): ∃ad c,aM l cap xs.length= .slice ad xs.length c/\xs.length<=c/\ad=l.map (fun b=>⟨b,0,none⟩)/\(l=none->c=0/\xs=[])/\(l≠none->c=cap):=by
 obtain⟨cells,Y,_⟩:=h
 cases l with
 |none=>
  have I:xs=[]:=ra Y.1
  subst I
  exact⟨none,0,rfl,iZ _,rfl,fun _=>⟨rfl,rfl⟩,fun h=>absurd rfl h⟩
 |some b=>
  obtain⟨cur,_,g2,_⟩:=Y
  exact⟨_,cap,rfl,g2,rfl,fun h=>(by cases h),fun _=>rfl⟩
def kr{hi:Operand}(D:E.P.underlying t=some (.slice aT))(ti:TI E.P aT sz bytes agg z)(hsz:r.sz=sz)(hm:gI mm r U l cap xs∈O)(I:aD E.N G x (tV (aM l cap n)))(hhi:aD E.N G hi (X (rI k') j))(h:cW xs 0 j=some ys)(hn:n=xs.length:=by rfl):bJ E O G ⟨dst,.slice t x none (some hi) none,ty,pos,after,g⟩ (tV (aM l cap ys.length)):=
 .of_pure fun a w S _ ho M=>by
  subst hsz
  subst hn
  have Y:a.eval x=aM l cap xs.length:=I S a M
  obtain⟨ad,c,H,h3,h4,h5,h5'⟩:=vM (ho.mem _ hm).1
  have h6:=dG.1 (hhi S a M)
  obtain⟨lo,m,hl,rfl,h7,h8,rfl⟩:=dH h
  have hl0:lo=0:=by omega
  subst hl0
  have hlen:((xs.take m).drop 0).length=m:=by simp;omega
  refine⟨_,?_,rfl⟩
  rw [H]at Y
  have hr:(execOp a.eval ⟨dst,.slice t x none (some hi) none,ty,pos,after,g⟩).run E.P w= .ok (.value (.slice ad m c)) w:=by
   simp [execOp,Instr.sliceAt,Y,h6,Instr.slice,gy D,Instr.sliceBounds,eZ (k:=k') (n:=(m:Int)) (y:=c) (by omega) (by omega),ti.sizeOf]
   cases ad<;>simp [Addr.add]
  rw [hr,hlen,h4]
  cases l with
  |none=>
   obtain⟨rfl,rfl⟩:=h5 rfl
   have:m=0:=by simpa using h8
   subst this;rfl
  |some b=>rw [h5' (by simp)];rfl
def lP{lo:Operand}{i:Int}(D:E.P.underlying t=some (.slice aT))(ti:TI E.P aT sz bytes agg z)(hsz:r.sz=sz)(hm:gI mm r U l cap xs∈O)(I:aD E.N G x (tV (aM l cap n)))(hlo:aD E.N G lo (X (rI k) i))(h:cW xs i (xs.length:Int)=some ys)(hn:n=xs.length:=by rfl):bJ E O G ⟨dst,.slice t x (some lo) none none,ty,pos,after,g⟩ (tV (jU sz l cap i.toNat ys.length)):=
 .of_pure fun a w S _ ho M=>by
  subst hsz
  subst hn
  have Y:a.eval x=aM l cap xs.length:=I S a M
  obtain⟨ad,c,H,h3,h4,h5,h5'⟩:=vM (ho.mem _ hm).1
  have h6:=dG.1 (hlo S a M)
  obtain⟨lo',m,rfl,hm',h7,h8,rfl⟩:=dH h
  have hm2:m=xs.length:=by omega
  subst hm2
  have hlen:((xs.take xs.length).drop lo').length=xs.length-lo' :=by simp
  refine⟨_,?_,rfl⟩
  rw [H]at Y
  have hr:(execOp a.eval ⟨dst,.slice t x (some lo) none none,ty,pos,after,g⟩).run E.P w= .ok (.value (.slice (if c=lo' then ad else ad.map (·.add (lo' *r.sz))) (xs.length-lo') (c-lo'))) w:=by
   simp [execOp,Instr.sliceAt,Y,h6,Instr.slice,gy D,Instr.sliceBounds,eZ (k:=k) (n:=(lo' :Int)) (y:=xs.length) (by omega) (by omega),ti.sizeOf]
  rw [hr,hlen,h4]
  cases l with
  |none=>
   obtain⟨rfl,rfl⟩:=h5 rfl
   have:lo' =0:=by simpa using h7
   subst this;rfl
  |some b=>
   rw [h5' (by simp)]
   unfold jU
   simp only [tK,Option.map_some,fe,oa]
   split<;>rfl
def uc{i:Int}(h:cW xs lo hi=some ys)(hy:eG ys i=some y):eG xs (lo+i)=some y/\0<=lo/\0<=i:=by
 obtain⟨l,m,rfl,rfl,Y,H,rfl⟩:=dH h
 obtain⟨h0,h3⟩:=fy hy
 refine⟨?_,by omega,h0⟩
 obtain⟨j,rfl⟩: ∃j:Nat,i=j:=⟨i.toNat,by omega⟩
 rw [show((l:Int)+(j:Int))=((l+j:Nat):Int)from by omega,iW]
 rw [qg,tK]at h3
 have hlt:l+j<m:=by
  have:=(mH.1 h3).1
  simp at this;omega
 rwa [tN hlt]at h3
def vv{e:TypeId}{i:Int}(D:E.P.underlying t=some (.slice e))(ti:TI E.P e sz bytes agg z)(hsz:r.sz=sz)(hm:gI mm r U l cap xs∈O)(hs:cW xs lo hi=some ys)(I:aD E.N G x (tV (jU sz l cap lo.toNat ys.length)))(hi' :aD E.N G ix (X (rI k) i))(hy:eG ys i=some y):
  bJ E O G ⟨dst,.indexAddr t x ix,ty,pos,after,g⟩ (tV (gu l ((lo+i).toNat*sz+0))):=
 .of_pure fun a w S _ ho M=>by
  subst hsz
  have Y:a.eval x=jU r.sz l cap lo.toNat ys.length:=I S a M
  have h3:a.eval ix= .int k i:=dG.1 (hi' S a M)
  obtain⟨hxi,hl0,hi0⟩:=uc hs hy
  obtain⟨_,hx'⟩:=fy hxi
  obtain⟨b,cur,rfl,_,hle,_⟩:=lN (ho.mem _ hm).1 hx'
  have hlt:i.toNat<ys.length:=(mH.1 (fy hy).2).1
  have hlt2:(lo+i).toNat<xs.length:=(mH.1 hx').1
  have hne: ¬(cap=lo.toNat):=by omega
  refine⟨_,?_,rfl⟩
  have hc:0<=i/\i<(ys.length:Int):=⟨hi0,by omega⟩
  have e1:(lo+i).toNat=lo.toNat+i.toNat:=by omega
  simp [execOp,Y,h3,jU,hne,Instr.indexAt,asIntOf,gy D,hc,ti.sizeOf,fe,gu,aq,e1,pn]
def D5{e:TypeId}(D:E.P.underlying t=some (.slice e))(hm:gI mm r U l cap xs∈O)(hs:cW xs lo hi=some ys)(I:aD E.N G x (tV (jU sz l cap lo.toNat ys.length))):
  bJ E O G ⟨dst,.call ⟨.builtin .len,#[x],#[t]⟩,ty,pos,after,g⟩ (X (rI .i64) (ys.length:Int)):=
 .of_pure fun a w S _ ho M=>by
  have Y:a.eval x=jU sz l cap lo.toNat ys.length:=I S a M
  obtain⟨ad,c,h3⟩: ∃ad c,jU sz l cap lo.toNat ys.length= .slice ad ys.length c:=by
   cases l with
   |none=>
    obtain⟨_,H,_⟩:=(ho.mem _ hm).1
    have hx0:xs=[]:=ra H.1
    subst hx0
    obtain⟨l',m,_,_,_,h8,rfl⟩:=dH hs
    exact⟨none,0,by simp [jU]⟩
   |some b=>exact⟨_,_,rfl⟩
  refine⟨.int .i64 ys.length,?_,dG.2 rfl⟩
  simp [execOp,resolve,invoke,builtin,Builtin.len_,gy D,Y,h3,goInt]
end
def EY(h:cW xs 0 j=some ys)(k:tu false r U l cap xs w S):tu false r U l cap ys w S:=by
 obtain⟨lo,m,hl,rfl,h7,h8,rfl⟩:=dH h
 have hl0:lo=0:=by omega
 subst hl0
 obtain⟨cells,Y,H,h3⟩:=k
 have hlen:((xs.take m).drop 0).length=m:=by simp;omega
 have h4:mD r S (cells.take (m*r.sz)) (xs.take m):=by
  have e:xs=xs.take m++xs.drop m:=(pe _ _).symm
  rw [e]at H
  have:=(lk H).1
  rwa [show(xs.take m).length=m from by simp;omega]at this
 refine⟨cells.take (m*r.sz),?_,by simpa using h4,fun b V=>h3 b V⟩
 rw [hlen]
 cases l with
 |none=>
  obtain⟨g1,g2⟩:=Y
  exact⟨by omega,by rw [g2];simp⟩
 |some b=>
  obtain⟨cur,g1,g2,g3,g4,g5⟩:=Y
  exact⟨cur,g1,by omega,g3,g4,by rw [<-g5,q5,qx (q9 _ h8)]⟩
def St.cut(h:cW xs 0 j=some ys)(st:St E (dX r U l cap xs::O) G a w S):St E (dX r U l cap ys::O) G a w S:=
 st.own_map fun ho=>⟨⟨EY h ho.1.1,ho.1.2⟩,ho.2.1,ho.2.2⟩
def sH(h:cW xs 0 j=some ys)(k:RG E ops Q rest (dX r U l cap ys::O) G):RG E ops Q rest (dX r U l cap xs::O) G:=fun a w S st=>k a w S (st.cut h)
end

variable{x0 x1 x2 x3 x4 x5 x6:OE}
section
variable{e:Exit}
def qZ{O:List OE}(h:cF base B w S (x0::x1::x2::x3::x4::x5::O)):cF base B w S (x5::x0::x1::x2::x3::x4::O):=
 (ot h nb (fun f M=>by simp only [eV]at M ⊢;rcases M with h|h|h|h|h|h<;>simp [h])).swap
def BM(h:RG E ops Q rest (x5::x0::x1::x2::x3::x4::O) G):RG E ops Q rest (x0::x1::x2::x3::x4::x5::O) G:=fun a w S st=>h a w S (st.own_map qZ)
def B3(h:AT E Q e (x5::x0::x1::x2::x3::x4::O) G):AT E Q e (x0::x1::x2::x3::x4::x5::O) G:=fun a w S st=>h a w S (st.own_map qZ)
def o4{O:List OE}(h:cF base B w S (x0::x1::x2::x3::x4::x5::x6::O)):cF base B w S (x6::x0::x1::x2::x3::x4::x5::O):=
 (ot h qZ (fun f M=>by simp only [eV]at M ⊢;rcases M with h|h|h|h|h|h|h<;>simp [h])).swap
def wn(h:RG E ops Q rest (x6::x0::x1::x2::x3::x4::x5::O) G):RG E ops Q rest (x0::x1::x2::x3::x4::x5::x6::O) G:=fun a w S st=>h a w S (st.own_map o4)
def wt(h:AT E Q e (x6::x0::x1::x2::x3::x4::x5::O) G):AT E Q e (x0::x1::x2::x3::x4::x5::x6::O) G:=fun a w S st=>h a w S (st.own_map o4)
def u5{x7:OE}{O:List OE}(h:cF base B w S (x0::x1::x2::x3::x4::x5::x6::x7::O)):cF base B w S (x7::x0::x1::x2::x3::x4::x5::x6::O):=
 (ot h o4 (fun f M=>by simp only [eV]at M ⊢;rcases M with h|h|h|h|h|h|h|h<;>simp [h])).swap
def BL{x7:OE}(h:RG E ops Q rest (x7::x0::x1::x2::x3::x4::x5::x6::O) G):RG E ops Q rest (x0::x1::x2::x3::x4::x5::x6::x7::O) G:=fun a w S st=>h a w S (st.own_map u5)
end

def dM(h:xs.set i y=zs):zs.length=xs.length:=by rw [<-h,vF]
section
def eS(hl:m=n)(s:Nat)(hs:bu G s=some (tV (aM l cap n)))(k:RG E ops Q rest O ((s,tV (aM l cap m))::G)):RG E ops Q rest O G:=by
 subst hl
 exact fun a w S st=>k a w S (st.cons (st.facts.at_ s _ hs))
end

def iv{s:Rp γ}{o1 o2:Nat}{g1:α->β}{g2:β->γ}(Y:jE r o1 q g1)(H:jE q o2 s g2)(V:Nat.ble (o2+s.sz) q.sz=true:=by rfl):jE r (o1+o2) s (fun x=>g2 (g1 x)):=fun S cs x h=>by
 have h3:=H S _ _ (Y S cs x h)
 have hb' :=lL V
 rwa [td,q5,lW,qx (by omega)]at h3
def sh{s:Rp γ}{o1 o2:Nat}{g1:α->β}{u1:α->β->α}{u2:β->γ->β}(Y:jE r o1 q g1)(k1:ff r o1 q u1)(k2:ff q o2 s u2)(V:Nat.ble (o2+s.sz) q.sz=true:=by rfl)(hc:Nat.ble (o1+q.sz) r.sz=true:=by rfl):
  ff r (o1+o2) s (fun x y=>u1 x (u2 (g1 x) y)):=fun S cs x ds y h hy=>by
 have hb' :=lL V
 have hc' :=lL hc
 have hl:=r.len h
 have h3:=k1 S cs x _ _ h (k2 S _ _ ds y (Y S cs x h) hy)
 have e:cs.take (o1+o2)++ds++cs.drop (o1+o2+s.sz)=cs.take o1++(((cs.drop o1).take q.sz).take o2++ds++((cs.drop o1).take q.sz).drop (o2+s.sz))++cs.drop (o1+q.sz):=by
  rw [q5,qx (by omega),td,lW,List.take_add,show o1+(o2+s.sz)=o1+o2+s.sz from by omega]
  simp only [jI]
  congr 3
  have e2:cs.drop (o1+q.sz)=(cs.drop (o1+o2+s.sz)).drop (q.sz-(o2+s.sz)):=by rw [lW];congr 1;omega
  rw [e2,pe]
 rw [e];exact h3

def df(P:Program)(f:FuncId)(ts:List Ty)(O1:List OE){ι:Type}(t:ι->Ty)(O2:ι->List OE):Prop:=
 ∀w S vs,gc w S->pm S ts vs->cF 0 la w S O1->Calls P f vs.toArray w fun en w' => ∃i v S',en= .returned v/\(t i).p S' v/\ez (fun k=> ∃f∈O1,f.fp k) w S w' S' /\gc w' S' /\cF 0 la w' S' (O2 i)/\ ∀k,(∃f∈O2 i,f.fp k)->(∃f∈O1,f.fp k)\/w.heap.size<=k
def C9(E:En)(O1:List OE){ι:Type}(t:ι->Ty)(O2:ι->List OE):Ending->World->Prop:=fun en w' =>
 ∃i v S',en= .returned v/\(t i).p S' v/\ez E.B E.w0 E.S0 w' S' /\gc w' S' /\cF 0 la w' S' (O2 i)/\ ∀k,(∃f∈O2 i,f.fp k)->(∃f∈O1,f.fp k)\/E.w0.heap.size<=k
def qP(O1:List OE):Nat->Prop:=fun k=> ∃f∈O1,f.fp k
def df.of{t:ι->Ty}(M:P.funcs[f]? =some fn)(V:fn.body=some c)(hN:fn.ntmps=N)(hn:Nat.ble ts.length N=true)(h: ∀w0 S0,CG ⟨P,⟨N,[]⟩,qP O1,w0,S0,none⟩ (bodyPost P fn (C9 ⟨P,⟨N,[]⟩,qP O1,w0,S0,none⟩ O1 t O2)) c O1 (ol 0 ts)):df P f ts O1 t O2:=by
 subst hN
 intro w S vs hs hv ho
 exact jo.1 (callsIn_of_wp (F:=fw none) (n:=0) M V trivial (h w S _ w S ⟨ez.refl _ _ _,hs,jC ho fun f M k hk=> .inr ⟨f,M,hk⟩,lv hv _ (lL hn)⟩))
def xi{t:ι->Ty}{v:Value}(st:St E O G a w S)(hB:E.B=qP O1)(i:ι)(hO:O=O2 i)(hv:(t i).p S v):C9 E O1 t O2 (.returned v) w:=by
 subst hO
 refine⟨i,v,S,rfl,hv,st.ext,st.sat,st.own.weak,fun k ⟨f,M,hk⟩=>?_⟩
 rcases(cF.mem st.own f M).2 k hk with h|h
 ·exact .inr h
 ·rw [hB]at h;exact .inl h
section
variable{t:ι->Ty}
def j9{k:Nat}{u:Ty}(hr:fn.results= #[.tmp k])(i:ι)(hO:O=O2 i)(hk:bu G k=some u)(hu: ∀S v,u.p S v->(t i).p S v):
  AT ⟨P,⟨N,[]⟩,qP O1,w0,S0,none⟩ (bodyPost P fn (C9 ⟨P,⟨N,[]⟩,qP O1,w0,S0,none⟩ O1 t O2)) .ret O G:=fun _ _ S st=>
 ⟨st.facts.defers,_,ir P fn k hr _ _,xi st rfl i hO (hu S _ (st.facts.at_ k u hk))⟩
end
def rP: ∀{O1 O2:List OE},cF base B w S O1->cF base B w S O2->(∀e∈O1,∀f∈O2,e.apart f)->cF base B w S (O1++O2)
 |[],_,_,h,_=>h
 |e::O1,O2,⟨Y,H,h3⟩,h,ha=>⟨Y,fun f M=>(te.1 M).elim (H f) (ha e (k5 ..) f),rP h3 h fun g Z f M=>ha g (nf _ Z) f M⟩
section
variable{ty:TypeId}
def St.turn{Or O2:List OE}(st:St E (O1++Or) G a w S)(I:ez (fun k=> ∃f∈O1,f.fp k) w S w' S')(hs:gc w' S')(ho:cF 0 la w' S' O2)(hn: ∀k,(∃f∈O2,f.fp k)->(∃f∈O1,f.fp k)\/w.heap.size<=k):St E (O2++Or) G a w' S' :=by
 obtain⟨Y,H,h3⟩:=jB st.own
 have hbl:=st.base_le
 refine⟨st.ext.step I (fun b ⟨f,M,V⟩=>(cF.mem Y f M).2 b V),hs,rP (jC ho fun f M k hk=>?_) (H.ext I fun f M b V ⟨g,Z,hgb⟩=>h3 g Z f M b hgb V) (fun e he f M b heb hfb=>?_),st.facts.mono I.keep⟩
 ·rcases hn k ⟨f,M,hk⟩with⟨g,Z,hgk⟩|h
  ·exact(cF.mem Y g Z).2 k hgk
  ·exact .inl (ve hbl h)
 ·rcases hn b ⟨e,he,heb⟩with⟨g,Z,hgb⟩|h
  ·exact h3 g Z f M b hgb hfb
  ·have:=f.here (cF.mem H f M).1 b hfb
   omega
def pS{xs:List Operand}(O1 Or:List OE){t:ι->Ty}(hO:O=O1++Or)(hc:ah E.P f=true)(hs:df E.P f ts O1 t O2)(I:ew E.N G xs ts)(hd:Nat.blt d E.N.n=true)(k: ∀i,RG E ops Q rest (O2 i++Or) ((d,t i)::G)):
  RG E ops Q (⟨some d,.call ⟨.value (.func f),xs.toArray,ats⟩,ty,pos,after,none⟩::rest) O G:= .of rfl fun a w S st=>by
 subst hO
 have hr:(execOp a.eval ⟨some d,.call ⟨.value (.func f),xs.toArray,ats⟩,ty,pos,after,none⟩).run E.P w= .ok (.enter f (xs.map a.eval).toArray) w:=by
  simp [execOp,resolve,Act.eval,Deferred.ofValue,invoke,dN hc]
 refine⟨fun c h=>(by cases h),?_⟩
 rw [hr]
 refine(hs w S _ st.sat (I.tys st.facts) (jB st.own).1.weak).mono fun en w' ⟨i,v,S',he,hv,Y,H,h3,h4⟩=>⟨_,he,?_⟩;exact k i _ _ S' ((st.turn Y H h3 h4).put hd hv)
end

structure OI where
 h:Nat->Option Nat×Nat:=fun _=>(none,0)
 os:List (Option Nat×Nat):=[]
 fp:Nat->Prop:=la
 v:Value:=undef
 ng:Nat->(Option Nat×Nat)×(Nat->Option Nat×Nat):=fun _=>((none,0),fun _=>(none,0))
def nh:OI:={}
def oi(l:Option Nat)(c:Nat):OI:={h:=fun _=>(l,c)}
def EffOK(E:En)(O:List OE)(need:gJ)(o:Oper)(post:OI->List OE)(t:OI->Ty):Prop:=
 ∀a w S,gc w S->cF E.base E.B w S O->db E.N S a need->E.base<=w.heap.size->
  yk E.P o a w (fun a' w' => ∃v S' x,a' =a.put o.dst v/\ez (qP O) w S w' S' /\gc w' S' /\cF E.base E.B w' S' (post x)/\(t x).p S' v)
variable{post:OI->List OE}{t' :TypeId}
section
variable{ty:TypeId}
def zW{y:Operand}{u:OI->Ty}(ti:TI E.P aT sz bytes agg z)(hsz:r.sz=sz)(hz:Nat.beq z.length sz=true)(h0:Nat.blt 0 sz=true)(h128:Nat.ble bytes 2048=true)(D:E.P.underlying t=some (.slice aT))(I:aD E.N G x (tV (aM l cap n)))(hy: ∀a w S,gc w S->db E.N S a G-> ∃news,Src E.P r.sz t' (a.eval y) ys.length news w/\mD r S news ys)(happ:kF xs ys=some zs)(hu: ∀l' cap' w0 S,(gI mm r aT l' cap' zs).p w0 S->(u (oi l' cap')).p S (aM l' cap' zs.length))(hn:n=xs.length):
  EffOK E (gI mm r aT l cap xs::O) G ⟨some d,.call ⟨.builtin .append,#[x,y],#[t,t']⟩,ty,pos,after,g⟩ (fun i=>gI mm r aT (i.h 0).1 (i.h 0).2 zs::O) u:=fun a w S hs ho M V=>by
 subst hn
 have Y:a.eval x=aM l cap xs.length:=I S a M
 obtain⟨news,H,h3⟩:=hy a w S hs M
 obtain⟨l',cap',w',S',hr,hext,hsat,hh,hnew⟩:=pC (ty:=ty) ti hsz hz h0 h128 D hs ho.1 V H h3 happ
 have hrun:(execOp a.eval ⟨some d,.call ⟨.builtin .append,#[x,y],#[t,t']⟩,ty,pos,after,g⟩).run E.P w= .ok (.value (aM l' cap' zs.length)) w' :=by
  simp [execOp,resolve,invoke,builtin,Y,hr]
 refine⟨fun c h=>(by cases h),?_⟩
 rw [hrun]
 refine⟨_,S',oi l' cap',rfl,hext.more fun b V=>⟨_,k5 ..,V⟩,hsat,⟨hh,fun f M b V hfb=>?_,ho.2.2.ext hext fun f M b V hbl=>ho.2.1 f M b hbl V⟩,hu l' cap' w' S' hh.1⟩
 rcases hnew b V with h|h
 ·exact ho.2.1 f M b h hfb
 ·have:=f.here (cF.mem ho.2.2 f M).1 b hfb
  omega
def s7{y:Operand}(ti:TI E.P aT sz bytes agg z)(hsz:r.sz=sz)(hz:Nat.beq z.length sz=true)(h0:Nat.blt 0 sz=true)(h128:Nat.ble bytes 2048=true)(D:E.P.underlying t=some (.slice aT))(ht' :t' =t)(I:aD E.N G x (tO r l cap xs))(hy:aD E.N G y (X (eY r) ys))(happ:kF xs ys=some zs):
  EffOK E (tip r aT l cap xs::O) G ⟨some d,.call ⟨.builtin .append,#[x,y],#[t,t']⟩,ty,pos,after,g⟩ (fun i=>tip r aT (i.h 0).1 (i.h 0).2 zs::O) (fun i=>tO r (i.h 0).1 (i.h 0).2 zs):=by
 subst ht'
 exact zW ti hsz hz h0 h128 D (oz I) (fun a w S hs M=>px D hs (hy S a M)) happ (fun _ _ _ _ h=>⟨rfl,jV h⟩) rfl
def wh{xs:List Operand}{u:OI->Ty}(hc:ah E.P f=true)(hs:ev E.P f ts mm r aT ys)(I:ew E.N G xs ts)(hu: ∀l cap w0 S,(gI mm r aT l cap ys).p w0 S->(u (oi l cap)).p S (aM l cap ys.length)):
  EffOK E O G ⟨some d,.call ⟨.value (.func f),xs.toArray,ats⟩,ty,pos,after,g⟩ (fun i=>gI mm r aT (i.h 0).1 (i.h 0).2 ys::O) u:=fun a w S hsat ho M V=>by
 have hr:(execOp a.eval ⟨some d,.call ⟨.value (.func f),xs.toArray,ats⟩,ty,pos,after,g⟩).run E.P w= .ok (.enter f (xs.map a.eval).toArray) w:=by
  simp [execOp,resolve,Act.eval,Deferred.ofValue,invoke,dN hc]
 refine⟨fun c h=>(by cases h),?_⟩
 rw [hr]
 exact(hs w S _ hsat (I.tys M)).mono fun e w' ⟨l,cap,S',he,Y,H,h3⟩=>⟨_,he,_,S',oi l cap,rfl,Y.more fun _ V=>V.elim,H,nA ho Y h3.1 (fun b V=>(h3.2 b V).resolve_right id) V,hu l cap w' S' h3.1⟩
def ev.tip(h:ev P f ts mm r aT ys):ev P f ts true r aT ys:=by
 cases mm with
 |true=>exact h
 |false=>
  intro w S vs hs hv
  refine(h w S vs hs hv).mono fun e w' ⟨l,cap,S',he,Y,H,h3⟩=>?_
  have st:St ⟨default,⟨0,[]⟩,la,w,S,none⟩ [dX r aT l cap ys] [] ⟨#[],[]⟩ w' S' :=⟨Y,H,⟨h3,fun _ M=>(by cases M),trivial⟩,⟨rfl,rfl,fun _ _ h=>(by simp [bu]at h)⟩⟩
  obtain⟨S'',h4⟩:=st.freeze
  exact⟨l,cap,S'',he,h4.ext,h4.sat,h4.own.1⟩
def Bz{xs:List Operand}(hc:ah E.P f=true)(hs:ev E.P f ts mm r aT ys)(I:ew E.N G xs ts):
  EffOK E O G ⟨some d,.call ⟨.value (.func f),xs.toArray,ats⟩,ty,pos,after,g⟩ (fun i=>Go.Proofs.YtbmmihfagmchaaaGreat.tip r aT (i.h 0).1 (i.h 0).2 ys::O) (fun i=>tO r (i.h 0).1 (i.h 0).2 ys):=wh hc hs.tip I (fun _ _ _ _ h=>⟨rfl,jV h⟩)
def cF.turn{Or O2:List OE}(h:cF base B w S (O1++Or))(hbl:base<=w.heap.size)(I:ez (qP O1) w S w' S')(ho:cF 0 la w' S' O2)(hn: ∀k,(∃f∈O2,f.fp k)->(∃f∈O1,f.fp k)\/w.heap.size<=k):cF base B w' S' (O2++Or):=by
 obtain⟨Y,H,h3⟩:=jB h
 refine rP (jC ho fun f M k hk=>?_) (H.ext I fun f M b V ⟨g,Z,hgb⟩=>h3 g Z f M b hgb V) (fun e he f M b heb hfb=>?_)
 ·rcases hn k ⟨f,M,hk⟩with⟨g,Z,hgk⟩|h
  ·exact(cF.mem Y g Z).2 k hgk
  ·exact .inl (ve hbl h)
 ·rcases hn b ⟨e,he,heb⟩with⟨g,Z,hgb⟩|h
  ·exact h3 g Z f M b hgb hfb
  ·have:=f.here (cF.mem H f M).1 b hfb
   omega
def BA{xs:List Operand}(O1 Or:List OE){t:OI->Ty}{O2:OI->List OE}(hO:O=O1++Or)(hc:ah E.P f=true)(hs:df E.P f ts O1 t O2)(I:ew E.N G xs ts)(hpost: ∀i,O2 i++Or=post i):
  EffOK E O G ⟨some d,.call ⟨.value (.func f),xs.toArray,ats⟩,ty,pos,after,g⟩ post t:=fun a w S hsat ho M V=>by
 subst hO
 obtain rfl:(fun i=>O2 i++Or)=post:=funext hpost
 have hr:(execOp a.eval ⟨some d,.call ⟨.value (.func f),xs.toArray,ats⟩,ty,pos,after,g⟩).run E.P w= .ok (.enter f (xs.map a.eval).toArray) w:=by
  simp [execOp,resolve,Act.eval,Deferred.ofValue,invoke,dN hc]
 refine⟨fun c h=>(by cases h),?_⟩
 rw [hr]
 exact(hs w S _ hsat (I.tys M) (jB ho).1.weak).mono fun en w' ⟨i,v,S',he,hv,Y,H,h3,h4⟩=>⟨_,he,v,S',i,rfl,Y.more fun b ⟨f,M,V⟩=>⟨f,AZ _ M,V⟩,H,cF.turn ho V Y h3 h4,hv⟩
def Ag{op:Op}{t:OI->Ty}(h:EffOK E O G ⟨some d,op,ty,pos,after,none⟩ post t)(hd:Nat.blt d E.N.n=true)(k: ∀x:OI,RG E ops Q rest (post x) ((d,t x)::G)):RG E ops Q (⟨some d,op,ty,pos,after,none⟩::rest) O G:= .of rfl fun a w S st=>
 jv (fun a' w' ⟨v,S',x,ha,I,hs,ho,hv⟩=>by
  subst ha
  exact k x _ _ S' ⟨st.ext.step I fun b ⟨f,M,V⟩=>(cF.mem st.own f M).2 b V,hs,ho,(st.facts.mono I.keep).put hd hv⟩) (h a w S st.sat st.own st.facts st.base_le)
end

def y7(σ:Nat->OI)(k:Nat)(x:OI):Nat->OI:=fun j=>bif Nat.beq j k then x else σ j
def Ce(σ:Nat->OI)(k:Nat)(x:OI):y7 σ k x k=x:=by simp [y7]
def t8(σ:Nat->OI){k j:Nat}(x:OI)(h:j≠k):y7 σ k x j=σ j:=by
 have:Nat.beq j k=false:=by
  cases V:Nat.beq j k with
  |false=>rfl
  |true=>exact absurd (kB V) h
 simp [y7,this]
structure NE where
 slot:Nat
 ty:(Nat->OI)->Ty
 src:Option Nat
def Ic(G:gJ)(ts:List (OI->Ty))(n:NE):Prop:=
 match n.src with
 |some j=> ∀σ,(ts[j]?).map (fun f=>f (σ j))=some (n.ty σ)
 |none=> ∀σ,bu G n.slot=some (n.ty σ)
def AO(G:gJ)(ts:List (OI->Ty)):List NE->Prop
 |[]=>True
 |n::l=>Ic G ts n/\AO G ts l
def AO.mem{ts:List (OI->Ty)}: ∀{l:List NE},AO G ts l-> ∀n∈l,Ic G ts n
 |_::_,⟨h,_⟩,_,.head _=>h
 |_::_,⟨_,h⟩,_,.tail _ hm=>AO.mem h _ hm
def jF(E:En)(ops:Array Oper)(O:List OE)(need:gJ)(o:Oper)(post:OI->List OE)(t:OI->Ty):Prop:=
 ∀a w S,gc w S->cF E.base E.B w S O->db E.N S a need->E.base<=w.heap.size->
  if Region.wanted o (yielded ops a.tmps)then yk E.P o a w (fun a' w' => ∃v S' x,a' =a.put o.dst v/\ez (qP O) w S w' S' /\gc w' S' /\cF E.base E.B w' S' (post x)/\(t x).p S' v)
  else∃x,cF E.base E.B w S (post x)/\(t x).p S undef
def ck{need:gJ}{t:OI->Ty}(Z:o.guard=none)(h:EffOK E O need o post t):jF E ops O need o post t:=fun a w S hs ho M V=>by
 have:Region.wanted o (yielded ops a.tmps)=true:=by unfold Region.wanted;rw [Z]
 rw [this,eF rfl]
 exact h a w S hs ho M V
def dW(es:List Bool)(i:Nat):Nat:=(es.take i).countP (· ==true)
def z7(L:List Oper)(es:List Bool):Bool:=(List.range es.length).all fun i=>(List.range i).all fun j=> !((es[i]?).getD false&&(es[j]?).getD false)||iT L L.length i j
structure Jj(E:En)(G:gJ)(l:List Oper)(ts:List (OI->Ty))(Om:Nat->(Nat->OI)->List OE)(es:List Bool)(done:Array Bool)(a:Act)(w:World)(S:SH)(σ:Nat->OI)(c:Nat):Prop where
 ext:ez E.B E.w0 E.S0 w S
 sat:gc w S
 own:cF E.base E.B w S (Om c σ)
 size:a.tmps.size=E.N.n
 defers:a.defers=E.N.ds
 dsz:done.size=l.length
 down: ∀j o,l[j]? =some o->done.getD j false=true-> ∀e∈o.after,Region.binds .any e=true->done.getD e.on false=true
 old: ∀k t,bu G k=some t->(∀j o,l[j]? =some o->done.getD j false=true->o.dst≠some k)->t.p S (a.tmps.getD k undef)
 new: ∀j o d f,l[j]? =some o->done.getD j false=true->o.dst=some d->ts[j]? =some f->(f (σ j)).p S (a.tmps.getD d undef)
 chain: ∀k,es[k]? =some true->(done.getD k false=true↔dW es k<c)
variable{es:List Bool}
def uZ: ∀{i j:Nat},i<j->es[i]? =some true->dW es i<dW es j:=by
 induction es with
 |nil=>intro i j _ h;simp at h
 |cons e es ih=>
  intro i j hij h
  cases j with
  |zero=>omega
  |succ j=>
   cases i with
   |zero=>simp at h;subst h;simp [dW]
   |succ i=>
    have:=ih (i:=i) (j:=j) (by omega) (by simpa using h)
    cases e<;>simp [dW]at this ⊢ <;>omega
def o0: ∀{c k:Nat},c<dW es k-> ∃i,i<k/\es[i]? =some true/\dW es i=c:=by
 induction es with
 |nil=>intro c k h;simp [dW]at h
 |cons e es ih=>
  intro c k h
  cases k with
  |zero=>simp [dW]at h
  |succ k=>
   cases e with
   |false=>
    obtain⟨i,Y,H,h3⟩:=ih (c:=c) (k:=k) (by simpa [dW] using h)
    exact⟨i+1,by omega,by simpa using H,by simpa [dW] using h3⟩
   |true=>
    cases c with
    |zero=>exact⟨0,by omega,rfl,by simp [dW]⟩
    |succ c=>
     obtain⟨i,Y,H,h3⟩:=ih (c:=c) (k:=k) (by simp [dW]at h ⊢;omega)
     exact⟨i+1,by omega,by simpa using H,by simp [dW]at h3 ⊢;omega⟩
section
variable{ts:List (OI->Ty)}{Om:Nat->(Nat->OI)->List OE}
def Jj.step{σ:Nat->OI}{c c' :Nat}(h:Jj E G L ts Om es done a w S σ c){f:OI->Ty}{v:Value}{x:OI}{C:Nat->Prop}(hi:L[i]? =some o)(hd:o.dst=some d)(hdN:d<E.N.n)(hs2: ∀j p,L[j]? =some p->done.getD j false=true->p.dst=some d->i=j)(hwait: ∀e∈o.after,Region.binds .any e=true->done.getD e.on false=true)(D:ts[i]? =some f)(hun:done.getD i true=false)(hext:ez C w S w' S')(hC: ∀b,C b->E.base<=b\/E.B b)(hsat:gc w' S')(hown:cF E.base E.B w' S' (Om c' (y7 σ i x)))(hv:(f x).p S' v)(hch: ∀k,es[k]? =some true->((done.setIfInBounds i true).getD k false=true↔dW es k<c')):
  Jj E G L ts Om es (done.setIfInBounds i true) (a.put o.dst v) w' S' (y7 σ i x) c' :=by
 have hda:d<a.tmps.size:=by rw [h.size];exact hdN
 have hlt:i<done.size:=by rw [h.dsz];exact(mH.1 hi).1
 have hset: ∀j,(done.setIfInBounds i true).getD j false=true->j=i\/done.getD j false=true:=fun j hj=>by
  by_cases hij:i=j
  ·exact .inl hij.symm
  ·rw [rY false hij]at hj;exact .inr hj
 have hseti:(done.setIfInBounds i true).getD i false=true:=by simp [hlt]
 have hun' :done.getD i false=false:=by simp [hlt]at hun ⊢;exact hun
 refine⟨h.ext.step hext hC,hsat,hown,?_,?_,by simp [h.dsz],fun j p hj hdone e he V=>?_,fun k u hk hno=>?_,fun j p d' u hj hdone hd' hu=>?_,hch⟩
 ·rw [hd];simp [Act.put,h.size]
 ·rw [hd];exact h.defers
 ·rcases hset j hdone with rfl|hj'
  ·rw [hi]at hj
   have:o=p:=by simpa using hj
   subst this
   exact ox (hwait e he V)
  ·exact ox (h.down j p hj hj' e he V)
 ·have hne:d≠k:=fun e=>hno i o hi hseti (by rw [hd,e])
  rw [hd,lG hda,ei hne]
  exact u.mono hext.keep (h.old k u hk fun j p hj hdone=>hno j p hj (ox hdone))
 ·rw [hd,lG hda]
  by_cases hij:j=i
  ·subst hij
   rw [hi]at hj
   have:o=p:=by simpa using hj
   subst this
   rw [hd]at hd'
   have:d=d' :=by simpa using hd'
   subst this
   rw [eF rfl]
   rw [D]at hu
   have:f=u:=by simpa using hu
   subst this
   rw [Ce]
   exact hv
  ·have hj' :=(hset j hdone).resolve_left hij
   have hne:d≠d' :=fun e=>by
    subst e
    have:=hs2 j p hj hj' hd'
    exact hij this.symm
   rw [ei hne,t8 σ x hij]
   exact Ty.mono _ hext.keep (h.new j p d' u hj hj' hd' hu)
end

section
variable{ty:TypeId}
def vP(D:E.P.underlying t=some (.slice e))(I:aD E.N G x (tV (.slice none 0 0))):bJ E O G ⟨dst,.call ⟨.builtin .len,#[x],#[t]⟩,ty,pos,after,g⟩ (X (rI .i64) (0:Int)):=
 .of_pure fun a w S _ _ M=>by
  have Y:a.eval x= .slice none 0 0:=I S a M
  refine⟨.int .i64 0,?_,dG.2 rfl⟩
  simp [execOp,resolve,invoke,builtin,Builtin.len_,gy D,Y,goInt]
def vQ(D:E.P.underlying t=some (.slice e))(I:aD E.N G x (tV (.slice none 0 0))):bJ E O G ⟨dst,.call ⟨.builtin .cap,#[x],#[t]⟩,ty,pos,after,g⟩ (X (rI .i64) (0:Int)):=
 .of_pure fun a w S _ _ M=>by
  have Y:a.eval x= .slice none 0 0:=I S a M
  refine⟨.int .i64 0,?_,dG.2 rfl⟩
  simp [execOp,resolve,invoke,builtin,Builtin.cap_,gy D,Y,goInt]
def ym{hi:Operand}(D:E.P.underlying t=some (.slice aT))(ti:TI E.P aT sz bytes agg z)(I:aD E.N G x (tV (.slice none 0 0)))(hhi:aD E.N G hi (X (rI k) (0:Int))):
  bJ E O G ⟨dst,.slice t x none (some hi) none,ty,pos,after,g⟩ (tV (.slice none 0 0)):=
 .of_pure fun a w S _ _ M=>by
  have Y:a.eval x= .slice none 0 0:=I S a M
  have h6:=dG.1 (hhi S a M)
  refine⟨.slice none 0 0,?_,rfl⟩
  have V:=eZ (P:=E.P) (w:=w) (k:=k) (n:=(0:Int)) (y:=0) (code:= .sliceAcap) (by omega) (by omega)
  simp [execOp,Instr.sliceAt,Y,h6,Instr.slice,gy D,Instr.sliceBounds,V,eZ (k:=k) (n:=(0:Int)) (y:=0) (by omega) (by omega),ti.sizeOf]
end

def wD{α:Type}(n:Int)(z:α):Option (List α):=if 0<=n/\n<=68719476736 then some (List.replicate n.toNat z)else none
def xK{n:Int}{z:α}(h:wD n z=some zs): ∃m:Nat,n=m/\m<=68719476736/\zs=List.replicate m z:=by
 unfold wD at h
 split at h
 ·rename_i hc;exact⟨n.toNat,by omega,by omega,by simpa using h.symm⟩
 ·cases h
def ss{α:Type}{r:Rp α}{x:α}{z:List Value}(I: ∀S,r.rc S z x)(S:SH): ∀n:Nat,mD r S (List.replicate n z).flatten (List.replicate n x)
 |0=>rfl
 |n+1=>⟨z,_,by rw [List.replicate_succ,List.flatten_cons],I S,ss I S n⟩
def uz(z:List Value):(List.range z.length).map (fun i=>z[i%z.length]?.getD default)=z:=by
 apply xI
 intro k
 rcases iH k z.length with h|h
 ·rw [List.getElem?_map,List.getElem?_range h]
  simp [Nat.mod_eq_of_lt h,h]
 ·rw [A1 (by simpa using h),A1 h]
def ld(z:List Value)(n:Nat):(Builtin.zeroCells z.toArray n).toList=(List.replicate n z).flatten:=by
 unfold Builtin.zeroCells
 simp
 induction n with
 |zero=>simp
 |succ n ih=>
  rw [List.replicate_succ,List.flatten_cons,<-ih,Nat.succ_mul,Nat.add_comm,List.range_add,y8,uz,List.map_map]
  congr 1
  apply List.map_congr_left
  intro i _
  simp
section
variable{ty:TypeId}
def flat_len(h:z.length=sz)(n:Nat):(List.replicate n z).flatten.length=n*sz:=by
 simp [h]
def yN{x:α}{n:Int}{s y:Operand}{kn:IntKind}(ti:TI E.P aT sz bytes agg z)(hsz:r.sz=sz)(hz:Nat.beq z.length sz=true)(h0:Nat.blt 0 sz=true)(h128:Nat.ble bytes 2048=true)(D:E.P.underlying t=some (.slice aT))(ht' :E.P.underlying t' =some (.int kn))(I: ∀S,r.rc S z x)(hs' :aD E.N G s (tV (.slice none 0 0)))(hy:aD E.N G y (X (rI k) n))(hn:0<n)(h:wD n x=some zs):
  EffOK E O G ⟨some d,.call ⟨.builtin .append,#[s,y],#[t,t']⟩,ty,pos,after,g⟩ (fun i=>dX r aT (i.h 0).1 (i.h 0).2 zs::O) (fun i=>tV (aM (i.h 0).1 (i.h 0).2 zs.length)):=fun a w S hs ho M V=>by
 subst hsz
 obtain⟨i,zv,hi,Y,H,h3,h4⟩:=ti.get
 obtain⟨m,rfl,hm,rfl⟩:=xK h
 have hsv:a.eval s= .slice none 0 0:=hs' S a M
 have hyv:=dG.1 (hy S a M)
 have hz2:z.length=r.sz:=kB hz
 have h128' :=lL h128
 have h0' :0<r.sz:=by simpa [pc] using h0
 have hbytes:m*i.bytes<=281474976710656:=by
  have:m*i.bytes<=68719476736*2048:=Nat.mul_le_mul hm (by omega)
  omega
 have hr:=Lib.run_append_nil_zeros (P:=E.P) w t t' ty aT i zv k kn D ht' hi h3 m (by omega) (by omega) (by omega) hbytes
 have hge:=grownCap_ge w m 0 aT
 have hle:=grownCap_le_maxLen w m 0 aT (by simp only [maxLen];omega)
 generalize grownCap w m 0 aT=cp at hr hge hle
 obtain⟨C,hC⟩: ∃C,Builtin.zeroCells zv.cells m++Builtin.zeroCells zv.cells (cp-m)=C:=⟨_,rfl⟩
 rw [hC]at hr
 obtain⟨he0,hs0⟩:=pT (w:=w) hs
 obtain⟨he,hs2,hno⟩:=eX (w:=w.drew) (.cells C aT (0,0)) hs0
 have hx2:ez la w S (w.drew.alloc (.cells C aT (0,0))) S:=he0.trans he
 have hrun:(execOp a.eval ⟨some d,.call ⟨.builtin .append,#[s,y],#[t,t']⟩,ty,pos,after,g⟩).run E.P w= .ok (.value (.slice (some ⟨w.heap.size,0,none⟩) m cp)) (w.drew.alloc (.cells C aT (0,0))):=by
  simp [execOp,resolve,invoke,builtin,hsv,hyv,hr]
 refine⟨fun c h=>(by cases h),?_⟩
 rw [hrun]
 have hfl:=flat_len hz2 m
 have hC1:C.toList=(List.replicate m z).flatten++(List.replicate (cp-m) z).flatten:=by
  rw [<-hC,Array.toList_append,h4,ld,ld]
 refine⟨_,S,oi (some w.heap.size) cp,rfl,hx2.more fun _ V=>V.elim,hs2,nA ho hx2 (e:=dX r aT (some w.heap.size) cp (List.replicate m x)) ⟨(List.replicate m z).flatten,⟨C,wv w.drew _,by simpa using hge,hle,?_,?_⟩,ss I S m,fun b V=>by rw [<-my V];exact hno⟩ (fun b V=>tP (my V)) V,?_⟩
 ·have:C.toList.length=cp*r.sz:=by
   rw [hC1,hT,hfl,flat_len hz2,<-pn];congr 1;omega
  simpa using this
 ·rw [hC1,List.length_replicate,<-hfl,List.take_left]
 ·show _=aM _ _ _
  rw [List.length_replicate];rfl

def BN{x:α}{y:Operand}(ti:TI E.P aT sz bytes agg z)(hsz:r.sz=sz)(hz:Nat.beq z.length sz=true)(D:E.P.underlying t=some (.slice aT))(I: ∀S,r.rc S z x)(hone:z.all (·.oneCell')=true)(hs:cW xs lo (xs.length:Int)=some ys)(hy:aD E.N G y (tV (jU sz l cap lo.toNat ys.length)))(hzs:xs.take lo.toNat++List.replicate ys.length x=zs)(k:RG E ops Q rest (dX r aT l cap zs::O) G):
  RG E ops Q (⟨none,.call ⟨.builtin .clear,#[y],#[t]⟩,ty,pos,after,none⟩::rest) (dX r aT l cap xs::O) G:= .of rfl fun a w S st=>by
 subst hsz
 subst hzs
 obtain⟨i,zv,hi,Y,H,h3,h4⟩:=ti.get
 have hyv:a.eval y=jU r.sz l cap lo.toNat ys.length:=hy S a st.facts
 have hz2:z.length=r.sz:=kB hz
 obtain⟨lo',m,rfl,hm,h5,h6,rfl⟩:=dH hs
 have hm' :m=xs.length:=by omega
 subst hm'
 rw [xE]at hyv k
 rw [tK]at hyv k
 by_cases hnil:xs.drop lo' =[]
 ·have hlo:xs.length<=lo' :=wy.1 hnil
  rw [hnil]at hyv k
  have e1:xs.take lo' ++List.replicate ([]:List α).length x=xs:=by simp [kC hlo]
  rw [e1]at k
  have hrun:(execOp a.eval ⟨none,.call ⟨.builtin .clear,#[y],#[t]⟩,ty,pos,after,none⟩).run E.P w= .ok (.value (.tuple #[])) w:=by
   cases l<;>simp [execOp,resolve,invoke,builtin,Builtin.clear_,gy D,hyv,jU]
  refine⟨fun c h=>(by cases h),?_⟩
  rw [hrun]
  exact k _ _ S st
 ·obtain⟨⟨cells,hraw,hrc,hno⟩,hbase⟩:=st.own.1
  have hlt:lo' <xs.length:=by
   rcases iH lo' xs.length with h|h
   ·exact h
   ·exact absurd (wz h) hnil
  cases l with
  |none=>have:=hraw.1;omega
  |some b=>
   obtain⟨cur,g1,g2,g3,g4,g5⟩:=hraw
   have hno' :S b=none:=hno b rfl
   have hne: ¬(cap=lo'):=by omega
   have hld:(xs.drop lo').length=xs.length-lo' :=by simp
   have hfl:=flat_len hz2 (xs.length-lo')
   have hones: ∀u∈(List.replicate (xs.length-lo') z).flatten,u.oneCell' =true:=by
    intro u hu
    obtain⟨q,hq,hu⟩:=List.mem_flatten.1 hu
    rw [(List.mem_replicate.1 hq).2]at hu
    exact kz.1 hone u hu
   have hmul:xs.length*r.sz<=cur.size:=by rw [g4];exact q9 _ g2
   have hfit:lo' *r.sz+(xs.length-lo')*r.sz=xs.length*r.sz:=by rw [<-pn];congr 1;omega
   have hst:=run_storeCells_at E.P b (lo' *r.sz) aT (List.replicate (xs.length-lo') z).flatten 0 cur w g1 (by omega) hones
   simp only [Nat.add_zero]at hst
   have hrun:(execOp a.eval ⟨none,.call ⟨.builtin .clear,#[y],#[t]⟩,ty,pos,after,none⟩).run E.P w= .ok (.value (.tuple #[])) (w.setRow b (cur.toList.take (lo' *r.sz)++(List.replicate (xs.length-lo') z).flatten++cur.toList.drop (lo' *r.sz+(List.replicate (xs.length-lo') z).flatten.length)).toArray):=by
    have e1: ∃q,xs.length-lo' =q+1:=⟨xs.length-lo' -1,by omega⟩
    obtain⟨q,hq⟩:=e1
    have e2:a.eval y= .slice (some ⟨b,lo' *r.sz,none⟩) (q+1) (cap-lo'):=by rw [hyv,hld,hq];simp [jU,hne]
    rw [hq]at hst ⊢
    simp [execOp,resolve,invoke,builtin,Builtin.clear_,gy D,e2,zeroValue,typeInfo,hi,h3,h4,ld,hst]
   refine⟨fun c h=>(by cases h),?_⟩
   rw [hrun]
   have hset:=setRow_heap w b cur (cur.toList.take (lo' *r.sz)++(List.replicate (xs.length-lo') z).flatten++cur.toList.drop (lo' *r.sz+(List.replicate (xs.length-lo') z).flatten.length)).toArray aT _ g1
   have hl2:(xs.take lo' ++List.replicate (xs.drop lo').length x).length=xs.length:=by simp;omega
   have hsp:mD r S (cells.take (lo' *r.sz)) (xs.take lo'):=by
    have e:xs=xs.take lo' ++xs.drop lo' :=(pe _ _).symm
    rw [e]at hrc
    have:=(lk hrc).1
    rwa [show(xs.take lo').length=lo' from by simp;omega]at this
   have hcl:((cur.toList.take (lo' *r.sz)++(List.replicate (xs.length-lo') z).flatten++cur.toList.drop (lo' *r.sz+(List.replicate (xs.length-lo') z).flatten.length)).toArray).toList.take ((xs.take lo' ++List.replicate (xs.drop lo').length x).length*r.sz)=cells.take (lo' *r.sz)++(List.replicate (xs.length-lo') z).flatten:=by
    rw [hl2,<-g5,q5,qx (q9 _ (by omega))]
    have hlen1:(cur.toList.take (lo' *r.sz)++(List.replicate (xs.length-lo') z).flatten).length=xs.length*r.sz:=by
     rw [hT,hfl,ww,xG,qx (by omega)];exact hfit
    rw [<-hlen1,List.take_left]
   obtain⟨q1,q2,q3⟩:=kq (O:=O) st.sat (dX r aT (some b) cap xs) (dX r aT (some b) cap (xs.take lo' ++List.replicate (xs.drop lo').length x)) st.own (fun k=>⟨fun h=>(my h).symm,fun h=>by rw [h];rfl⟩) (fun k=>⟨fun h=>(my h).symm,fun h=>by rw [h];rfl⟩)
    (w' :=w.setRow b (cur.toList.take (lo' *r.sz)++(List.replicate (xs.length-lo') z).flatten++cur.toList.drop (lo' *r.sz+(List.replicate (xs.length-lo') z).flatten.length)).toArray) ⟨rfl,rfl,rfl,by simp [World.setRow],iZ _⟩ (fun k hk=>setRow_other w b k _ hk)
    ⟨cells.take (lo' *r.sz)++(List.replicate (xs.length-lo') z).flatten,⟨_,hset,by rw [hl2];exact g2,g3,by simp only [AX,hT,ww,xF,xG];omega,hcl⟩,by rw [hld];exact oK hsp (ss I S _),fun k hk=>by rw [<-my hk];exact hno'⟩ hno'
   ·exact k _ _ S ⟨st.ext.step q1 (fun c hc=>hbase c (by rw [hc];rfl)),q2,q3,st.facts⟩
end

def kE{α:Type}(r:Rp α)(n:Nat):Rp (List α) where
 sz:=n*r.sz
 agg:=true
 rc:=fun S cs xs=>xs.length=n/\mD r S cs xs
 mono:=fun h ⟨Y,H⟩=>⟨Y,mV h H⟩
 len:=fun⟨Y,H⟩=>by rw [ju H,Y]
 one:=fun⟨_,H⟩=>tz H
 sc:=fun h=>by cases h
section
section
variable{ty:TypeId}
def gD{i:Int}(D:E.P.underlying t=some (.array n e))(ti:TI E.P e sz bytes agg z)(hsz:r.sz=sz)(I:aD E.N G x (bp (kE r n) xs))(hi:aD E.N G ix (X (rI k) i))(hy:eG xs i=some y):
  bJ E O G ⟨dst,.indexAddr t x ix,ty,pos,after,g⟩ (bp r y):=
 .of_pure fun a w S _ _ M=>by
  subst hsz
  obtain⟨b,off,c,aT,fr,Y,H,h3,h4⟩:=I S a M
  have h5:a.eval ix= .int k i:=dG.1 (hi S a M)
  obtain⟨h0,hy'⟩:=fy hy
  have hlt:i.toNat<xs.length:=(mH.1 hy').1
  have hc:0<=i/\i<(n:Int):=⟨h0,by omega⟩
  refine⟨.pointer (some ⟨b,off+i.toNat*r.sz,none⟩),?_,b,_,c,aT,fr,rfl,H,?_⟩
  ·simp [execOp,Y,h5,Instr.indexAt,asIntOf,gy D,Instr.sureAddr,hc,ti.sizeOf,fe]
  ·have h6:=oJ h4 hy'
   rw [td,q5,lW]at h6
   have hmul:i.toNat*r.sz+r.sz<=n*r.sz:=by rw [<-Nat.succ_mul];exact q9 _ (by omega)
   have hmin:min r.sz ((kE r n).sz-i.toNat*r.sz)=r.sz:=by
    show min r.sz (n*r.sz-i.toNat*r.sz)=r.sz
    omega
   rwa [hmin]at h6
def cm{i:Int}(D:E.P.underlying t=some (.array n e))(ti:TI E.P e sz bytes agg z)(hm:bx (kE r n) aT b xs∈O)(I:aD E.N G x (tV (aq b 0)))(hi:aD E.N G ix (X (rI k) i))(hy:eG xs i=some y):
  bJ E O G ⟨dst,.indexAddr t x ix,ty,pos,after,g⟩ (tV (aq b (i.toNat*sz))):=
 .of_pure fun a w S _ ho M=>by
  have Y:a.eval x=aq b 0:=I S a M
  have h5:a.eval ix= .int k i:=dG.1 (hi S a M)
  obtain⟨⟨_,c,_,h4,_⟩,_⟩:=ho.mem _ hm
  obtain⟨h0,hy'⟩:=fy hy
  have hlt:i.toNat<xs.length:=(mH.1 hy').1
  have hc:0<=i/\i<(n:Int):=⟨h0,by omega⟩
  refine⟨_,?_,rfl⟩
  simp [execOp,Y,h5,aq,Instr.indexAt,asIntOf,gy D,Instr.sureAddr,hc,ti.sizeOf,fe]
end
def Ec{i:Int}(hy:eG xs i=some y){cs:List Value}(h:(kE r n).rc S cs xs):r.rc S ((cs.drop (i.toNat*r.sz)).take r.sz) y:=oJ h.2 (fy hy).2
def uA{i:Int}{p:Operand}{ty:TypeId}(ti:TI E.P U sz bytes agg z)(hsz:r.sz=sz)(hag:r.agg=agg)(hm:bx (kE r n) aT b xs∈O)(hy:eG xs i=some y)(hp:aD E.N G p (tV (aq b (i.toNat*r.sz)))):bJ E O G ⟨dst,.load U p,ty,pos,after,g⟩ (X r y):=
 .of_pure fun a w S _ ho M=>by
  have Y:a.eval p=aq b (i.toNat*r.sz):=hp S a M
  obtain⟨⟨_,cur,h5,h6⟩,_⟩:=ho.mem _ hm
  have h7:=Ec hy h6
  refine⟨_,?_,_,rfl,h7⟩
  simp [execOp,Y,aq,Instr.loadAt,Instr.sureAddr,fa ti h5 hsz hag h7]
def BK{v:α}{i:Int}{p:Operand}{ty:TypeId}(ti:TI E.P U sz bytes agg z)(hsz:r.sz=sz)(hy:eG xs i=some y)(hz:xs.set i.toNat v=zs)(hp:aD E.N G p (tV (aq b (i.toNat*r.sz))))(hv:aD E.N G x (X r v))(k:RG E ops Q rest (bx (kE r n) aT b zs::O) G):RG E ops Q (⟨none,.store U p x,ty,pos,after,none⟩::rest) (bx (kE r n) aT b xs::O) G:= .of rfl fun a w S st=>by
 subst hz
 have Y:a.eval p=aq b (i.toNat*r.sz):=hp S a st.facts
 obtain⟨ds,H,h3⟩:=hv S a st.facts
 obtain⟨⟨hno,cur,h5,h6⟩,_⟩:=st.own.1
 obtain⟨h0,hy'⟩:=fy hy
 have hlt:i.toNat<xs.length:=(mH.1 hy').1
 have hl:=ju h6.2
 simp only [xG]at hl
 have hmul:i.toNat*r.sz+r.sz<=xs.length*r.sz:=by rw [<-Nat.succ_mul];exact q9 _ hlt
 obtain⟨w',hr,e1,e2,e3,e4,e5,e6⟩:=fk ti hsz h3 h5 (off:=i.toNat*r.sz) (by omega)
 have hrun:(execOp a.eval ⟨none,.store U p x,ty,pos,after,none⟩).run E.P w= .ok .skip w' :=by
  simp [execOp,Y,H,Instr.storeAt,aq,Instr.sureAddr,hr]
 refine⟨fun c h=>(by cases h),?_⟩
 rw [hrun]
 obtain⟨g1,g2,g3⟩:=kq (O:=O) st.sat (bx (kE r n) aT b xs) (bx (kE r n) aT b (xs.set i.toNat v)) st.own (fun _=>rX) (fun _=>rX) ⟨e1,e2,e3,e4.1,e4.2⟩ e6 ⟨hno,_,e5,by rw [vF];exact h6.1,ro h3 h6.2 hlt⟩ hno
 exact k _ _ S ⟨st.ext.step g1 (fun c hc=>st.own.1.2 c hc),g2,g3,st.facts⟩
end
def qq{α:Type}{r:Rp α}{c:Value}{x:α}(h: ∀S,r.rc S [c] x)(S:SH): ∀n,mD r S (List.replicate n c) (List.replicate n x)
 |0=>rfl
 |n+1=>⟨[c],_,rfl,h S,qq h S n⟩
def rM{c:Value}{x:α}(n:Nat)(h: ∀S,r.rc S [c] x): ∀S,(kE r n).rc S (List.replicate n c) (List.replicate n x):=fun S=>⟨List.length_replicate,qq h S n⟩
def FU(n:Nat):Option Unit:=if n<=68719476736 then some ()else none
def IA(n:Int):Option Unit:=if 0<n then some ()else none
def CK{n:Int}{u:Unit}(h:IA n=some u):0<n:=by
 unfold IA at h
 split at h
 ·assumption
 ·cases h
def Dz{e:Exit}(mm:Bool)(r:Rp α)(aT:TypeId)(h:AT E Q e (gI mm r aT none 0 []::O) G):AT E Q e O G:=fun a w S st=>h a w S (st.fresh mm r aT)
def wj{x:α}(h:cW xs lo (xs.length:Int)=some ys)(hz:xs.take lo.toNat++List.replicate ys.length x=zs):zs.length=xs.length:=by
 obtain⟨l,m,rfl,hm,Y,H,rfl⟩:=dH h
 have hm' :m=xs.length:=by omega
 subst hm'
 rw [<-hz]
 simp
 omega

def tC(n:FuncId)(cts:List Ty):Ty where
 p:=fun S v=> ∃cap:List Value,v= .func (.func n) #[] cap.toArray/\pm S cts cap
 mono:=fun h ⟨cap,e,k⟩=>⟨cap,e,pm.mono h k⟩
section
section
variable{ty:TypeId}
def yn{fid:FuncId}{caps:List Operand}{cts:List Ty}(hcap:ew E.N G caps cts):bJ E O G ⟨dst,.makeFunc (.func fid) #[] caps.toArray,ty,pos,after,g⟩ (tC fid cts):=
 .of_pure fun a w S _ _ M=>⟨.func (.func fid) #[] (caps.map a.eval).toArray,by simp [execOp,Instr.makeFunc],_,rfl,hcap.tys M⟩
end
def sC{n:FuncId}{cts:List Ty}{ty:TypeId}{fo:Operand}{xs:List Operand}(O1 Or:List OE){t:OI->Ty}{O2:OI->List OE}(hO:O=O1++Or)(hc:ah E.P n=true)(hs:df E.P n (ts++cts) O1 t O2)(M:aD E.N G fo (tC n cts))(I:ew E.N G xs ts)(hpost: ∀i,O2 i++Or=post i):
  EffOK E O G ⟨some d,.call ⟨.value fo,xs.toArray,ats⟩,ty,pos,after,g⟩ post t:=fun a w S hsat ho hF V=>by
 subst hO
 obtain rfl:(fun i=>O2 i++Or)=post:=funext hpost
 obtain⟨cap,e,hcap⟩:=M S a hF
 have hr:(execOp a.eval ⟨some d,.call ⟨.value fo,xs.toArray,ats⟩,ty,pos,after,g⟩).run E.P w= .ok (.enter n ((xs.map a.eval).toArray++cap.toArray)) w:=by
  simp [execOp,resolve,e,Deferred.ofValue,invoke,dN hc]
 refine⟨fun c h=>(by cases h),?_⟩
 rw [hr]
 have e2:(xs.map a.eval).toArray++cap.toArray=((xs.map a.eval)++cap).toArray:=by simp
 rw [e2]
 exact(hs w S _ hsat ((I.tys hF).append hcap) (jB ho).1.weak).mono fun en w' ⟨i,v,S',he,hv,Y,H,h3,h4⟩=>⟨_,he,v,S',i,rfl,Y.more fun b ⟨f,M,V⟩=>⟨f,AZ _ M,V⟩,H,cF.turn ho V Y h3 h4,hv⟩
end

def vA{α:Type}(xs:List α)(lo:Int)(n:Nat)(i:Int):Option α:=if 0<=i/\i<(n:Int)then eG xs (lo+i)else none
def p6{i:Int}(h:vA xs lo n i=some y):0<=i/\i<(n:Int)/\eG xs (lo+i)=some y:=by
 unfold vA at h
 split at h
 ·rename_i hc;exact⟨hc.1,hc.2,h⟩
 ·cases h
def sf(h:cW xs lo hi=some ys):0<=lo:=by
 obtain⟨l,m,rfl,_,_,_,_⟩:=dH h
 omega
section
def kX(hm:gI mm r aT l cap xs∈O)(hs:cW xs lo hi=some ys)(h:(l=none->ys.length=0)/\ys.length<=maxLen->RG E ops Q rest O G):RG E ops Q rest O G:=fun a w S st=>by
 refine h ?_ a w S st
 obtain⟨cells,Y,_⟩:=(st.own.mem _ hm).1
 obtain⟨l',m,_,_,_,h8,rfl⟩:=dH hs
 have hlen:((xs.take m).drop l').length<=xs.length:=by simp;omega
 cases l with
 |none=>have:=Y.1;exact⟨fun _=>by omega,by omega⟩
 |some b=>obtain⟨cur,_,g2,g3,_⟩:=Y;exact⟨fun h=>(by cases h),by omega⟩
section
variable{ty:TypeId}
def Aw{lo:Nat}(D:E.P.underlying t=some (.slice e))(hv:l=none->n=0)(I:aD E.N G x (tV (jU sz l cap lo n))):
  bJ E O G ⟨dst,.call ⟨.builtin .len,#[x],#[t]⟩,ty,pos,after,g⟩ (X (rI .i64) (n:Int)):=
 .of_pure fun a w S _ ho M=>by
  have Y:a.eval x=jU sz l cap lo n:=I S a M
  obtain⟨ad,c,h3⟩: ∃ad c,jU sz l cap lo n= .slice ad n c:=by
   cases l with
   |none=>rw [hv rfl];exact⟨none,0,rfl⟩
   |some b=>exact⟨_,_,rfl⟩
  refine⟨.int .i64 n,?_,dG.2 rfl⟩
  simp [execOp,resolve,invoke,builtin,Builtin.len_,gy D,Y,h3,goInt]
def nZ{i:Int}(D:E.P.underlying t=some (.slice e))(ti:TI E.P e sz bytes agg z)(hsz:r.sz=sz)(hm:gI mm r U l cap xs∈O)(hl0:0<=lo)(I:aD E.N G x (tV (jU sz l cap lo.toNat n)))(hi' :aD E.N G ix (X (rI k) i))(hy:vA xs lo n i=some y):
  bJ E O G ⟨dst,.indexAddr t x ix,ty,pos,after,g⟩ (tV (gu l ((lo+i).toNat*sz+0))):=
 .of_pure fun a w S _ ho M=>by
  subst hsz
  have Y:a.eval x=jU r.sz l cap lo.toNat n:=I S a M
  have h3:a.eval ix= .int k i:=dG.1 (hi' S a M)
  obtain⟨hi0,hin,hxi⟩:=p6 hy
  obtain⟨_,hx'⟩:=fy hxi
  obtain⟨b,cur,rfl,_,hle,_⟩:=lN (ho.mem _ hm).1 hx'
  have hlt2:(lo+i).toNat<xs.length:=(mH.1 hx').1
  have hne: ¬(cap=lo.toNat):=by omega
  refine⟨_,?_,rfl⟩
  have hc:0<=i/\i<(n:Int):=⟨hi0,hin⟩
  have e1:(lo+i).toNat=lo.toNat+i.toNat:=by omega
  simp [execOp,Y,h3,jU,hne,Instr.indexAt,asIntOf,gy D,hc,ti.sizeOf,fe,gu,aq,e1,pn]
end
end

section
variable{ty:TypeId}{l:List Oper}
end

def oL{κ β:Type} [DecidableEq κ]:List (κ×β)->κ->Option β
 |[],_=>none
 |p::m,k=>if p.1=k then some p.2 else oL m k
def ge{κ β:Type} [DecidableEq κ]:List (κ×β)->κ->β->List (κ×β)
 |[],k,v=>[(k,v)]
 |p::m,k,v=>if p.1=k then(k,v)::m else p::ge m k v
def u7{κ:Type}(P:Program)(kt:TypeId)(kv:κ->Value):Prop:= ∃d,P.underlying kt=some d/\(∀a,MapKept.IsKey d (kv a))/\ ∀a b,kv a=kv b->a=b
def Ix(k:IntKind)(n:Int):Value:= .int k n
def im{kt:TypeId}(h:P.underlying kt=some (.int k)):u7 P kt (Ix k):=⟨_,h,fun _=>rfl,fun a b e=>by injection e⟩
structure MV(β:Type) where
 p:World->SH->β->Option Nat×Nat->Value->Prop
 here: ∀{w S y o v},p w S y o v-> ∀j,o.1=some j->j<w.heap.size
 kept: ∀{C w w' S S' y o v},p w S y o v->ez C w S w' S' ->(∀j,o.1=some j-> ¬C j)->p w' S' y o v
def sU{β:Type}(ty:β->Ty):MV β where
 p:=fun _ S y o v=>o.1=none/\(ty y).p S v
 here:=fun h j hj=>by rw [h.1]at hj;cases hj
 kept:=fun h k _=>⟨h.1,(ty _).mono k.keep h.2⟩
section
variable{κ:Type} [DecidableEq κ]{hb:MV β}{kv:κ->Value}{d:TypeDesc}{k:κ}
def ph(hb:MV β)(kv:κ->Value)(w:World)(S:SH)(h:Option κ):List MapEntry->List (Option Nat×Nat)->List (κ×β)->Prop
 |[],[],[]=>True
 |e::es,o::os,q::m=>e.key=kv q.1/\(if h=some q.1 then o.1=none else hb.p w S q.2 o e.val)/\(∀o' ∈os,∀j,o.1=some j->o'.1≠some j)/\(∀p∈m,p.1≠q.1)/\ph hb kv w S h es os m
 |_,_,_=>False
def wd{h:Option κ}: ∀{es:List MapEntry} {os:List (Option Nat×Nat)} {m:List (κ×β)},ph hb kv w S h es os m-> ∀o∈os,∀j,o.1=some j->j<w.heap.size
 |[],[],[],_,o,ho,_,_=>by cases ho
 |e::es,o::os,q::m,⟨_,H,_,_,h5⟩,o',ho,j,hj=>by
  rcases eV.1 ho with rfl|ho
  ·split at H
   ·rw [H]at hj;cases hj
   ·exact hb.here H j hj
  ·exact wd h5 o' ho j hj
def rF{C:Nat->Prop}(k:ez C w S w' S'){h:Option κ}: ∀{es:List MapEntry} {os:List (Option Nat×Nat)} {m:List (κ×β)},ph hb kv w S h es os m->(∀o∈os,∀j,o.1=some j-> ¬C j)->ph hb kv w' S' h es os m
 |[],[],[],_,_=>trivial
 |e::es,o::os,q::m,⟨Y,H,h3,h4,h5⟩,hC=>⟨Y,by
  split
  ·rename_i hh;rw [eF hh]at H;exact H
  ·rename_i hh;rw [ei hh]at H;exact hb.kept H k (hC o (k5 ..)),h3,h4,rF k h5 fun o' ho=>hC o' (nf _ ho)⟩
def s6{h:Option κ}: ∀{es:List MapEntry} {os:List (Option Nat×Nat)} {m:List (κ×β)},ph hb kv w S h es os m->(∀p∈m,h≠some p.1)->ph hb kv w S none es os m
 |[],[],[],_,_=>trivial
 |e::es,o::os,q::m,⟨Y,H,h3,h4,h5⟩,hk=>⟨Y,by
  rw [ei (hk q (k5 ..))]at H
  rw [ei (by simp)];exact H,h3,h4,s6 h5 fun p hp=>hk p (nf _ hp)⟩
def mB(hd: ∀a,MapKept.IsKey d (kv a))(hi: ∀a b,kv a=kv b->a=b)(a b:κ):Instr.sameNow d (kv a) (kv b)=some (decide (a=b)):=by
 obtain⟨r,Y,H⟩:=MapKept.sameNow_of_keys (hd a) (hd b)
 rw [Y]
 by_cases h:a=b
 ·subst h;rw [H.2 rfl];simp
 ·rw [decide_eq_false h]
  cases r with
  |false=>rfl
  |true=>exact absurd (hi _ _ (H.1 rfl)) h
def lA(hd: ∀a,MapKept.IsKey d (kv a))(hi: ∀a b,kv a=kv b->a=b): ∀{es:List MapEntry} {os:List (Option Nat×Nat)} {m:List (κ×β)} (i:Nat),ph hb kv w S none es os m->
  ∃os',(∀x∈os',x∈os\/x.1=none)/\ph hb kv w S (some k) es os' m/\
   ((oL m k=none/\Instr.findNow d (kv k) es i=some none)\/ ∃(y:β) (o:Option Nat×Nat) (e:MapEntry) (j:Nat),oL m k=some y/\o∈os/\hb.p w S y o e.val/\Instr.findNow d (kv k) es i=some (some (j,e.val))/\ ∀x∈os',∀q,o.1=some q->x.1≠some q)
 |[],[],[],i,_=>⟨[],fun x I=>(by cases I),trivial,.inl ⟨rfl,rfl⟩⟩
 |e::es,o::os,q::m,i,⟨Y,H,h3,h4,h5⟩=>by
  rw [ei (by simp)]at H
  by_cases hk:q.1=k
  ·refine⟨(none,0)::os,fun x I=>?_,⟨Y,by rw [eF (by rw [hk])],fun _ _ _ hj=>(by cases hj),h4,?_⟩,.inr ⟨q.2,o,e,i,by unfold oL;rw [eF hk],k5 ..,H,?_,fun x I j hj=>?_⟩⟩
   ·rcases eV.1 I with rfl|I
    ·exact .inr rfl
    ·exact .inl (nf _ I)
   ·have: ∀{es:List MapEntry} {os:List (Option Nat×Nat)} {m:List (κ×β)},ph hb kv w S none es os m->(∀p∈m,p.1≠k)->ph hb kv w S (some k) es os m:=by
     intro es
     induction es with
     |nil=>intro os m h _;cases os<;>cases m<;>first|trivial|exact h.elim
     |cons e es ih=>
      intro os m h hm
      cases os with
      |nil=>cases m<;>exact h.elim
      |cons o os=>
       cases m with
       |nil=>exact h.elim
       |cons q m=>
        obtain⟨g1,g2,g3,g4,g5⟩:=h
        rw [ei (by simp)]at g2
        exact⟨g1,by rw [ei (fun e=>hm q (k5 ..) (my e).symm)];exact g2,g3,g4,ih g5 fun p hp=>hm p (nf _ hp)⟩
    exact this h5 (fun p hp=>by rw [<-hk];exact h4 p hp)
   ·unfold Instr.findNow
    rw [Y,mB hd hi,hk,decide_eq_true rfl]
   ·rcases eV.1 I with rfl|I
    ·exact fun e=>by cases e
    ·exact h3 x I j hj
  ·obtain⟨os',g1,g2,g3⟩:=lA hd hi (i+1) h5
   refine⟨o::os',fun x I=>?_,⟨Y,by rw [ei (fun e=>hk (my e).symm)];exact H,fun o' ho' j hj=>?_,h4,g2⟩,?_⟩
   ·rcases eV.1 I with rfl|I
    ·exact .inl (k5 ..)
    ·exact(g1 x I).imp (nf _) id
   ·rcases g1 o' ho' with h|h
    ·exact h3 o' h j hj
    ·rw [h];exact fun e=>by cases e
   ·have M:Instr.findNow d (kv k) (e::es) i=Instr.findNow d (kv k) es (i+1):=by
     conv=>lhs;unfold Instr.findNow
     rw [Y,mB hd hi,decide_eq_false (fun e=>hk e.symm)]
    have hm:oL (q::m) k=oL m k:=by conv=>lhs;unfold oL;rw [ei hk]
    rw [M,hm]
    refine g3.imp id fun⟨y,o1,e1,j,f1,f2,f3,f4,f5⟩=>⟨y,o1,e1,j,f1,nf _ f2,f3,f4,fun x I q hq=>?_⟩
    rcases eV.1 I with rfl|I
    ·exact fun e=>h3 o1 f2 q e hq
    ·exact f5 x I q hq
def yx(x:α)(xs:List α)(j:Nat)(f:α->α):(x::xs).modify (j+1) f=x::xs.modify j f:=by simp [List.modify_succ_cons]
def we(hd: ∀a,MapKept.IsKey d (kv a))(hi: ∀a b,kv a=kv b->a=b){y:β}{o:Option Nat×Nat}{v:Value}{born:Nat}(hv:hb.p w S y o v): ∀{es:List MapEntry} {os:List (Option Nat×Nat)} {m:List (κ×β)} (i:Nat),ph hb kv w S (some k) es os m->(∀o' ∈os,∀j,o.1=some j->o'.1≠some j)->
    ∃os',(∀x∈os',x∈os\/x=o)/\
      ((∃(j:Nat) (e:MapEntry),Instr.findNow d (kv k) es i=some (some (i+j,e.val))/\es[j]? =some e/\e.key=kv k/\ph hb kv w S none (es.modify j fun e=>{e with key:=kv k,val:=v}) os' (ge m k y))\/
        (Instr.findNow d (kv k) es i=some none/\ph hb kv w S none (es++[⟨kv k,v,born⟩]) os' (ge m k y)))
  |[],[],[],i,_,_=>⟨[o],fun x I=> .inr (qf.1 I),.inr ⟨rfl,⟨rfl,by rw [ei (by simp)];exact hv,fun _ h=>(by cases h),fun _ h=>(by cases h),trivial⟩⟩⟩
  |e::es,o1::os,q::m,i,⟨Y,H,h3,h4,h5⟩,ha=>by
    by_cases hk:q.1=k
    · refine⟨o::os,fun x I=>?_,.inl ⟨0,e,?_,rfl,by rw [Y,hk],?_⟩⟩
      · rcases eV.1 I with rfl|I
        · exact .inr rfl
        · exact .inl (nf _ I)
      · unfold Instr.findNow
        rw [Y,mB hd hi,hk,decide_eq_true rfl]
        rfl
      · unfold ge
        rw [eF hk,List.modify_zero_cons]
        exact⟨rfl,by rw [ei (by simp)];exact hv,fun o' ho' =>ha o' (nf _ ho'),fun p hp=>by rw [<-hk];exact h4 p hp,
          s6 h5 fun p hp e=>h4 p hp (by rw [hk];exact(my e).symm)⟩
    · obtain⟨os',g1,g2⟩:=we hd hi (born:=born) hv (i+1) h5 fun o' ho' =>ha o' (nf _ ho')
      rw [ei (fun e=>hk (my e).symm)]at H
      have M:Instr.findNow d (kv k) (e::es) i=Instr.findNow d (kv k) es (i+1):=by
        conv=>lhs;unfold Instr.findNow
        rw [Y,mB hd hi,decide_eq_false (fun e=>hk e.symm)]
      have hm:ge (q::m) k y=q::ge m k y:=by conv=>lhs;unfold ge;rw [ei hk]
      have hap: ∀o' ∈os',∀j,o1.1=some j->o'.1≠some j:=fun o' ho' j hj=>by
        rcases g1 o' ho' with h|rfl
        · exact h3 o' h j hj
        · exact fun e=>ha o1 (k5 ..) j e hj
      have hne: ∀p∈ge m k y,p.1≠q.1:=by
        have: ∀m:List (κ×β),(∀p∈m,p.1≠q.1)-> ∀p∈ge m k y,p.1≠q.1:=by
          intro m
          induction m with
          |nil=>intro _ p hp;rw [qf.1 hp];exact fun e=>hk e.symm
          |cons p0 m ih=>
            intro hm p hp
            unfold ge at hp
            split at hp
            · rcases eV.1 hp with rfl|hp
              · exact fun e=>hk e.symm
              · exact hm p (nf _ hp)
            · rcases eV.1 hp with rfl|hp
              · exact hm _ (k5 ..)
              · exact ih (fun p hp=>hm p (nf _ hp)) p hp
        exact this m h4
      rw [M,hm]
      refine⟨o1::os',fun x I=>?_,g2.imp (fun⟨j,e',f1,f2,f3,f4⟩=>⟨j+1,e',by rw [f1];congr 3;omega,by simpa using f2,f3,?_⟩) fun⟨f1,f2⟩=>⟨f1,?_⟩⟩
      · rcases eV.1 I with rfl|I
        · exact .inl (k5 ..)
        · exact(g1 x I).imp (nf _) id
      · rw [yx]
        exact⟨Y,by rw [ei (by simp)];exact H,hap,hne,f4⟩
      · exact⟨Y,by rw [ei (by simp)];exact H,hap,hne,f2⟩
def wc{h:Option κ}: ∀{es:List MapEntry} {os:List (Option Nat×Nat)} {m:List (κ×β)},ph hb kv w S h es os m-> ∀x∈es,∃q∈m,x.key=kv q.1
 |[],[],[],_,x,I=>by cases I
 |e::es,o::os,q::m,⟨Y,_,_,_,h5⟩,x,I=>by
  rcases eV.1 I with rfl|I
  ·exact⟨q,k5 ..,Y⟩
  ·obtain⟨q',g1,g2⟩:=wc h5 x I
   exact⟨q',nf _ g1,g2⟩
def Bx(hd: ∀a,MapKept.IsKey d (kv a)){h:Option κ}{es:List MapEntry}{os:List (Option Nat×Nat)}{m:List (κ×β)}(h4:ph hb kv w S h es os m)(g1:Instr.findNow d (kv k) es i=some none){x:MapEntry}(I:x∈es):x.key≠kv k:=by
 rcases MapKept.findNow_spec (hd k) es i (fun y hy=>by obtain⟨q,_,e⟩:=wc h4 y hy;rw [e];exact hd _)with⟨_,H⟩|⟨j,e,H,_⟩
 ·exact H x I
 ·rw [g1]at H;cases H
def lR(hb:MV β)(kv:κ->Value)(b:Nat)(h:Option κ)(os:List (Option Nat×Nat))(m:List (κ×β)):OE where
 fp:=fun j=>j=b\/ ∃o∈os,o.1=some j
 p:=fun w S=>S b=none/\(∀o∈os,o.1≠some b)/\ ∃es clock,w.heap[b]? =some (.map es clock)/\ph hb kv w S h es.toList os m/\MapKept.Stamped es clock
 here:=by
  intro w S ⟨_,_,es,clock,h3,h4,_⟩ j hj
  rcases hj with rfl|⟨o,ho,hj⟩
  ·exact(qz.1 h3).1
  ·exact wd h4 o ho j hj
 kept:=by
  intro C w w' S S' ⟨Y,H,es,clock,h3,h4,hst⟩ k hC
  have hlt:=(qz.1 h3).1
  exact⟨by rw [k.old b hlt (hC b (.inl rfl))];exact Y,H,es,clock,by rw [k.heap b hlt (hC b (.inl rfl))];exact h3,rF k h4 (fun o ho j hj=>hC j (.inr ⟨o,ho,hj⟩)),hst⟩
def k4(b:Nat):Value:= .map (some b)
end
section
variable{κ:Type} [DecidableEq κ]{hb:MV β}{kv:κ->Value}{os:List (Option Nat×Nat)}{m:List (κ×β)}{k:κ}{kt et:TypeId}{i v:Operand}{dst:Option Nat}{ty:TypeId}
def wp(N:Fr)(G:gJ)(x:Operand)(u:Value):Prop:= ∀S a,db N S a G->a.eval x=u
def qN{N:Fr}{q:IntKind}{n:Int}(h:aD N G x (X (rI q) n)):wp N G x (Ix q n):=fun S a M=>dG.1 (h S a M)
def ZV(P:Program)(aT:TypeId)(z:Value):Prop:=(P.info? aT).bind (·.zero)=some z
def ZV.run{z:Value}(h:ZV P aT z)(w:World):(zeroValue aT).run P w= .ok z w:=by
 unfold ZV at h
 cases hi:P.info? aT with
 |none=>rw [hi]at h;cases h
 |some i=>
  rw [hi]at h
  have h' :i.zero=some z:=h
  simp [zeroValue,typeInfo,hi,h']
def qX(hb:MV β)(kv:κ->Value)(hd:Nat.blt d E.N.n=true)(k: ∀b,RG E ops Q rest (lR hb kv b none [] []::O) ((d,tV (k4 b))::G)):
  RG E ops Q (⟨some d,.makeMap t none,ty,pos,after,none⟩::rest) O G:= .of rfl fun a w S st=>by
 obtain⟨he,hs',hno⟩:=eX (w:=w) (.map #[] 0) st.sat
 have hrun:(execOp a.eval ⟨some d,.makeMap t none,ty,pos,after,none⟩).run E.P w= .ok (.value (k4 w.heap.size)) (w.alloc (.map #[] 0)):=by
  simp [execOp,Instr.makeMap,k4]
 refine⟨fun c h=>(by cases h),?_⟩
 rw [hrun]
 exact k w.heap.size _ _ S ⟨st.ext.step0 he,hs',nA st.own he ⟨hno,fun _ h=>(by cases h),#[],0,wv w _,trivial,MapKept.stamped_empty 0⟩ (fun b V=>by
  rcases V with rfl|⟨_,h,_⟩
  ·exact iZ _
  ·cases h) st.base_le,st.facts.put hd rfl⟩
def iA{kk:Value}{es:Array MapEntry}{clock:Nat}{q:TypeDesc}{z:Value}{u:Option (Nat×Value)}(hm:P.underlying t=some (.map kt et))(hq:P.underlying kt=some q)(hk:MapKept.IsKey q kk)(V:w.heap[b]? =some (.map es clock))(hz:ZV P et z)(M:Instr.findNow q kk es.toList 0=some u)(c:Bool):(Instr.lookup t (k4 b) kk c).run P w= .ok (if c then .tuple #[(u.map (·.2)).getD z,.bool u.isSome]else(u.map (·.2)).getD z) w:=by
 cases u with
 |none=>simp [Instr.lookup,k4,gy hm,Ak V,Ai hq hk,MapKept.run_findKey hq M,hz.run,Result.andThen]
 |some r=>simp [Instr.lookup,k4,gy hm,Ak V,Ai hq hk,MapKept.run_findKey hq M,Result.andThen]
def zF{γ:β->Ty}{z:β}{zv:Value}(hm:E.P.underlying t=some (.map kt et))(hk:u7 E.P kt kv)(hz:ZV E.P et zv)(hzt: ∀S,(γ z).p S zv)(hmem:lR (sU γ) kv b none os m∈O)(I:aD E.N G x (tV (k4 b)))(hi:wp E.N G i (kv k)):
  bJ E O G ⟨dst,.lookup t x i false,ty,pos,after,g⟩ (γ ((oL m k).getD z)):= .of_pure fun a w S hs ho M=>by
 obtain⟨⟨_,_,es,clock,h3,h4,_⟩,_⟩:=cF.mem ho _ hmem
 obtain⟨q,hq,hd,hinj⟩:=hk
 have Y:a.eval x=k4 b:=I S a M
 have H:a.eval i=kv k:=hi S a M
 obtain⟨_,_,_,h5⟩:=lA hd hinj (k:=k) 0 h4
 rcases h5 with⟨g1,g2⟩|⟨y,o,e,j,g1,g2,g3,g4,g5⟩
 ·refine⟨zv,by simp [execOp,Y,H,iA hm hq (hd k) h3 hz g2],by rw [g1];exact hzt S⟩
 ·refine⟨e.val,by simp [execOp,Y,H,iA hm hq (hd k) h3 hz g4],by rw [g1];exact g3.2⟩
def yo{γ:β->Ty}{z:β}{zv:Value}(hm:E.P.underlying t=some (.map kt et))(hk:u7 E.P kt kv)(hz:ZV E.P et zv)(hzt: ∀S,(γ z).p S zv)(hmem:lR (sU γ) kv b none os m∈O)(I:aD E.N G x (tV (k4 b)))(hi:wp E.N G i (kv k)):
  bJ E O G ⟨dst,.lookup t x i true,ty,pos,after,g⟩ (tT [γ ((oL m k).getD z),X rB (oL m k).isSome]):= .of_pure fun a w S hs ho M=>by
 obtain⟨⟨_,_,es,clock,h3,h4,_⟩,_⟩:=cF.mem ho _ hmem
 obtain⟨q,hq,hd,hinj⟩:=hk
 have Y:a.eval x=k4 b:=I S a M
 have H:a.eval i=kv k:=hi S a M
 obtain⟨_,_,_,h5⟩:=lA hd hinj (k:=k) 0 h4
 rcases h5 with⟨g1,g2⟩|⟨y,o,e,j,g1,g2,g3,g4,g5⟩
 ·refine⟨.tuple #[zv,.bool false],by simp [execOp,Y,H,iA hm hq (hd k) h3 hz g2],[zv,.bool false],rfl,by rw [g1];exact hzt S,fz.2 (by rw [g1];rfl),trivial⟩
 ·refine⟨.tuple #[e.val,.bool true],by simp [execOp,Y,H,iA hm hq (hd k) h3 hz g4],[e.val,.bool true],rfl,by rw [g1];exact g3.2,fz.2 (by rw [g1];rfl),trivial⟩
def sk{kk:Value}{es:Array MapEntry}{clock:Nat}{q:TypeDesc}{val:Value}(hm:P.underlying t=some (.map kt et))(hq:P.underlying kt=some q)(hk:MapKept.IsKey q kk)(V:w.heap[b]? =some (.map es clock)):
  (Instr.findNow q kk es.toList 0=some none->(Instr.mapUpdate t (k4 b) kk val).run P w= .ok () {w with heap:=w.heap.setIfInBounds b (.map (es.push ⟨kk,val,clock⟩) (clock+1))})/\
  (∀j e,Instr.findNow q kk es.toList 0=some (some (j,e))->(∀e',es.toList[j]? =some e' ->e'.key=kk)->(∃e',es.toList[j]? =some e')->(Instr.mapUpdate t (k4 b) kk val).run P w= .ok () {w with heap:=w.heap.setIfInBounds b (.map (es.modify j fun e=>{e with key:=kk,val:=val}) clock)}):=by
 refine⟨fun M=>?_,fun j e M hj he=>?_⟩
 ·simp [Instr.mapUpdate,k4,gy hm,Ak V,Ai hq hk,MapKept.run_findKey hq M,MapKept.run_setObj_map _ V,Result.andThen]
 ·obtain⟨e',he'⟩:=he
  have Y:=hj e' he'
  have H:es[j]? =some e' :=by simpa using he'
  simp [Instr.mapUpdate,k4,gy hm,Ak V,Ai hq hk,MapKept.run_findKey hq M,MapKept.run_setObj_map _ V,Result.andThen,H,Y,MapKept.run_keyThatStays hk]
def vR{y:β}{o:Option Nat×Nat}{val:Value}(hs:gc w S)(hm:E.P.underlying t=some (.map kt et))(hk:u7 E.P kt kv)(hp:(lR hb kv b (some k) os m).p w S)(hv:hb.p w S y o val)(hob:o.1≠some b)(hap: ∀o' ∈os,∀j,o.1=some j->o'.1≠some j):
  ∃w' os',(Instr.mapUpdate t (k4 b) (kv k) val).run E.P w= .ok () w' /\ez (fun j=>j=b) w S w' S/\gc w' S/\(lR hb kv b none os' (ge m k y)).p w' S/\(∀j,(lR hb kv b none os' (ge m k y)).fp j->(lR hb kv b (some k) os m).fp j\/o.1=some j):=by
 obtain⟨hno,hnb,es,clock,h3,h4,hst⟩:=hp
 obtain⟨q,hq,hdk,hinj⟩:=hk
 obtain⟨os',p1,p2⟩:=we hdk hinj (born:=clock) hv 0 h4 hap
 have hnb' : ∀o' ∈os',o'.1≠some b:=fun o' ho' =>by
  rcases p1 o' ho' with h|rfl
  ·exact hnb o' h
  ·exact hob
 have hfp: ∀j,(j=b\/ ∃o∈os',o.1=some j)->(j=b\/ ∃o∈os,o.1=some j)\/o.1=some j:=fun j hj=>by
  rcases hj with h|⟨o',ho',e⟩
  ·exact .inl (.inl h)
  ·rcases p1 o' ho' with h|rfl
   ·exact .inl (.inr ⟨o',h,e⟩)
   ·exact .inr e
 have hw: ∀tD:Obj,ez (fun j=>j=b) w S {w with heap:=w.heap.setIfInBounds b tD} S/\gc {w with heap:=w.heap.setIfInBounds b tD} S/\({w with heap:=w.heap.setIfInBounds b tD}:World).heap[b]? =some tD:=fun tD=>
  ⟨⟨rfl,rfl,rfl,iZ _,by simp,fun j _ hj=>(MapKept.heap_set (o' :=tD) h3).2 j hj,SH.le_refl _,fun _ _ _=>rfl⟩,hs.same fun j o hj=>(MapKept.heap_set (o' :=tD) h3).2 j (fun e=>by subst e;rw [hno]at hj;cases hj),(MapKept.heap_set h3).1⟩
 obtain⟨r1,r2⟩:=sk (val:=val) hm hq (hdk k) h3
 rcases p2 with⟨j,e,g1,g2,g3,g4⟩|⟨g1,g2⟩
 ·rw [oa]at g1
  obtain⟨x1,x2,x3⟩:=hw (.map (es.modify j fun e=>{e with key:=kv k,val:=val}) clock)
  refine⟨_,os',r2 j _ g1 (fun e' he' =>by rw [g2]at he';cases he';exact g3) ⟨_,g2⟩,x1,x2,⟨hno,hnb',_,_,x3,?_,MapKept.stamped_modify hst j _ (fun _ _=>rfl) (fun e' _ he' =>by rw [<-Array.getElem?_toList,g2]at he';cases he';exact g3.symm)⟩,hfp⟩;refine rF x1 (by rw [Array.toList_modify];exact g4) fun o' ho' j hj e=>?_
  subst e
  exact hnb' o' ho' hj
 ·obtain⟨x1,x2,x3⟩:=hw (.map (es.push ⟨kv k,val,clock⟩) (clock+1))
  refine⟨_,os',r1 g1,x1,x2,⟨hno,hnb',_,_,x3,?_,MapKept.stamped_push hst (fun x I e=>?_)⟩,hfp⟩
  rotate_left
  ·exact Bx hdk h4 g1 I e
  refine rF x1 (by rw [Array.toList_push];exact g2) fun o' ho' j hj e=>?_
  subst e
  exact hnb' o' ho' hj
def E0{γ:β->Ty}{y:β}(hm:E.P.underlying t=some (.map kt et))(hk:u7 E.P kt kv)(I:aD E.N G x (tV (k4 b)))(hi:wp E.N G i (kv k))(hv:aD E.N G v (γ y))
  (h: ∀os',RG E ops Q rest (lR (sU γ) kv b none os' (ge m k y)::O) G):
  RG E ops Q (⟨none,.mapUpdate t x i v,ty,pos,after,none⟩::rest) (lR (sU γ) kv b none os m::O) G:= .of rfl fun a w S st=>by
 have Y:a.eval x=k4 b:=I S a st.facts
 have H:a.eval i=kv k:=hi S a st.facts
 have h3:(γ y).p S (a.eval v):=hv S a st.facts
 obtain⟨⟨hp,hfp⟩,hap,hO⟩:=st.own
 obtain⟨hno,hnb,es,clock,e3,e4,hst⟩:=hp
 obtain⟨q,hq,hdk,hinj⟩:=hk
 obtain⟨os1,p1,p2,_⟩:=lA hdk hinj (k:=k) 0 e4
 have hnb1: ∀o∈os1,o.1≠some b:=fun o ho=>by
  rcases p1 o ho with h|h
  ·exact hnb o h
  ·rw [h];exact fun e=>by cases e
 obtain⟨w',os',r,x1,x2,x3,x4⟩:=vR (hb:=sU γ) (E:=E) (y:=y) (o:=(none,0)) (val:=a.eval v) st.sat hm ⟨q,hq,hdk,hinj⟩ ⟨hno,hnb1,es,clock,e3,p2,hst⟩ ⟨rfl,h3⟩ (fun e=>by cases e) (fun _ _ _ e=>by cases e)
 have hrun:(execOp a.eval ⟨none,.mapUpdate t x i v,ty,pos,after,none⟩).run E.P w= .ok .skip w' :=by simp [execOp,Y,H,r]
 refine⟨fun c h=>(by cases h),?_⟩
 rw [hrun]
 have hfp' : ∀j,(lR (sU γ) kv b none os' (ge m k y)).fp j->(lR (sU γ) kv b none os m).fp j:=fun j hj=>by
  rcases x4 j hj with(h|⟨o,ho,e⟩)|e
  ·exact .inl h
  ·rcases p1 o ho with h|h
   ·exact .inr ⟨o,h,e⟩
   ·rw [h]at e;cases e
  ·cases e
 exact h os' _ _ S ⟨st.ext.step x1 (fun c hc=>hfp c (.inl hc)),x2,⟨⟨x3,fun j hj=>hfp j (hfp' j hj)⟩,fun f M j hj=>hap f M j (hfp' j hj),hO.ext x1 fun f M j hj hjb=>hap f M j (.inl hjb) hj⟩,st.facts⟩
end

def qJ(tmps:Array Value):ResultVar->Sem Value
 | .tmp t=>pure (tmps.getD t undef)
 | .cell a t=>do loadVar t (<-asAddr (tmps.getD a undef))
def AK(P:Program)(N:Fr)(G:gJ)(rv:ResultVar)(t:Ty):Prop:= ∀a w S,gc w S->db N S a G-> ∃v,(qJ a.tmps rv).run P w= .ok v w/\t.p S v
def aS{N:Fr}{k:Nat}{t:Ty}(hk:bu G k=some t):AK P N G (.tmp k) t:=fun a w S _ M=>⟨_,rfl,M.at_ k t hk⟩
def bb{N:Fr}{k:Nat}{x:α}(ti:TI P aT sz bytes agg z)(hsz:r.sz=sz)(hag:r.agg=agg)(hk:bu G k=some (bp r x)):AK P N G (.cell k aT) (X r x):=fun a w S hs M=>by
 obtain⟨b,off,c,U,fr,Y,H,h3⟩:=M.at_ k _ hk
 obtain⟨c',h4,h5⟩:=hs.part H (r.len h3)
 rw [<-h5]at h3
 have hl:=fa ti h4 hsz hag h3
 have h1' :a.tmps[k]?.getD undef=Value.pointer (some ⟨b,off,none⟩):=by simpa [wB] using Y
 exact⟨_,by simp [qJ,h1',asAddr,hl],_,rfl,h3⟩
def BI(P:Program)(N:Fr)(G:gJ):List ResultVar->List Ty->Prop
 |[],[]=>True
 |rv::rvs,t::ts=>AK P N G rv t/\BI P N G rvs ts
 |_,_=>False
def BI.run{N:Fr}(hs:gc w S)(M:db N S a G): ∀{rvs:List ResultVar} {ts:List Ty},BI P N G rvs ts-> ∃vs,(rvs.mapM (qJ a.tmps)).run P w= .ok vs w/\pm S ts vs/\vs.length=rvs.length
 |[],[],_=>⟨[],rfl,trivial,rfl⟩
 |rv::rvs,t::ts,⟨Y,H⟩=>by
  obtain⟨v,g1,g2⟩:=Y a w S hs M
  obtain⟨vs,k1,k2,k3⟩:=BI.run hs M H
  exact⟨v::vs,by simp [List.mapM_cons,g1,k1,Result.andThen],⟨g2,k2⟩,by simp [k3]⟩
def bv{rvs:List ResultVar}(hr:fn.results=rvs.toArray)(Y:Nat.beq rvs.length 1=false)(h:BI P ⟨N,[]⟩ G rvs ts):
  AT ⟨P,⟨N,[]⟩,B,w0,S0,none⟩ (bodyPost P fn (vD ⟨P,⟨N,[]⟩,B,w0,S0,none⟩ (tT ts))) .ret O G:=fun a w S st=>by
 obtain⟨vs,k1,k2,k3⟩:=h.run st.sat st.facts
 have hne: ¬vs.length=1:=by rw [k3];intro e;rw [e]at Y;cases Y
 refine⟨st.facts.defers,.tuple vs.toArray,?_,_,S,rfl,st.ext,st.sat,vs,rfl,k2⟩
 have e1:(fn.results.mapM (qJ a.tmps)).run P w= .ok vs.toArray w:=by
  rw [hr,List.mapM_toArray,Sem.run_map,k1]
  rfl
 have e3:results fn a.tmps=((fn.results.mapM (qJ a.tmps))>>=fun vs=>pure (if h:vs.size=1 then vs[0]else .tuple vs)):=rfl
 rw [e3,ow,e1]
 simp [Result.andThen,hne]

def Ck{v:Value}(h:(X (eY r) xs).p S v):(eY r).rc S [v] xs:=by
 obtain⟨cs,e,H⟩:=h
 obtain⟨a,cap,e2,h3⟩:=H
 subst e2
 rw [e]
 exact⟨a,cap,rfl,h3⟩
section
variable{ty:TypeId}
def eP{r:Rp β}{get:β->Value}{x:β}{p:Operand}(ti:TI E.P U 1 bytes false z)(hget:jE r off rV get)(hm:bx r aT b x∈O)(hv:get x=aM l cap n)(hp:aD E.N G p (tV (aq b off))):
  bJ E O G ⟨dst,.load U p,ty,pos,after,g⟩ (tV (aM l cap n)):=(be (q:=rV) ti rfl rfl hget hm hp).imp fun _ _ h=>by rw [<-hv];exact(mA.1 h).1
def dj{q:Rp α}{r:Rp β}{get:β->Value}{x:β}{hb:TypeId}{p:Operand}(ti:TI E.P U 1 bytes false z)(hget:jE r off rV get)(hm:bx r aT b x∈O)(hm2:tip q hb l cap xs∈O)(hv:get x=aM l cap xs.length)(hp:aD E.N G p (tV (aq b off))):
  bJ E O G ⟨dst,.load U p,ty,pos,after,g⟩ (tO q l cap xs):=fun a w S hs ho M=>
 jv (fun _ _ ⟨v,S',Y,H,h3,h4⟩=>⟨v,S',Y,H,h3,h4,by
  have h5:v=aM l cap xs.length:=h4
  rw [h5]
  exact jV (((ho.ext0 H).mem _ hm2).1)⟩) (eP (g:=g) (ty:=ty) (pos:=pos) (after:=after) (dst:=dst) ti hget hm hv hp a w S hs ho M)
def j6{o:Nat}{p:Operand}(M:co E.P aT i=some (off,sz))(h0:Nat.beq sz 0=false)(hp:aD E.N G p (tV (aq b o)))(he:o+off=n):bJ E O G ⟨dst,.fieldAddr aT p i,ty,pos,after,g⟩ (tV (aq b n)):=by
 subst he
 exact vy M h0 hp
def fq{q:Rp α}{r:Rp β}{x:β}{p:Operand}(ti:TI E.P U sz bytes agg z)(hsz:q.sz=sz)(hag:q.agg=agg)(hag2:r.agg=agg)(hsz2:r.sz=sz)(hm:bx r aT b x∈O)(hc: ∀w S cs,cF E.base E.B w S O->r.rc S cs x->q.rc S cs y)(hp:aD E.N G p (tV (aq b 0))):
  bJ E O G ⟨dst,.load U p,ty,pos,after,g⟩ (X q y):= .of_pure fun a w S _ ho M=>by
 have Y:a.eval p=aq b 0:=hp S a M
 obtain⟨⟨_,cur,h5,h6⟩,_⟩:=ho.mem _ hm
 have h7:=hc w S _ ho h6
 have hl:=q.len h7
 have h8:q.rc S ((cur.toList.drop 0).take q.sz) y:=by rw [q6,kC (by omega)];exact h7
 exact⟨_,by simp [execOp,Y,aq,Instr.loadAt,Instr.sureAddr,fa ti h5 hsz hag h8],_,rfl,h8⟩
def hZ{q:Rp α}{hb:TypeId}(ho:cF base B w S O)(hm:tip q hb l cap xs∈O):(eY q).rc S [aM l cap xs.length] xs:=Ck (jV (ho.mem _ hm).1)
end
def kU{α β γ:Type}(r:Rp α)(r' :Rp γ)(off:Nat)(q:Rp β)(x:α)(y:β)(x' :γ):Prop:= ∀S cs ds,r.rc S cs x->q.rc S ds y->r'.rc S (cs.take off++ds++cs.drop (off+q.sz)) x'
def lZ{set:α->β->α}{x:α}{y:β}(h:ff r off q set):kU r r off q x y (set x y):=fun S cs ds Y H=>h S cs x ds y Y H
def gh{r' :Rp γ}{x:α}{y:γ}(hs:r.sz=r'.sz):kU r r' 0 r' x y y:=fun S cs ds Y H=>by
 have hl:=r.len Y
 rw [List.take_zero,nQ,tM (by omega),vg]
 exact H
def Ar{α' :Type}{p:Rp α}{p' :Rp α'}{x:α×β}{y:γ}{x1:α'}(h:kU p p' 0 u x.1 y x1)(hu:Nat.ble u.sz p.sz=true):kU (cC p q) (cC p' q) 0 u x y (x1,x.2):=fun S cs ds ⟨a,b,e,Y,H⟩ hd=>by
 have hl:=p.len Y
 have hu' :=lL hu
 have h3:=h S a ds Y hd
 subst e
 rw [List.take_zero,nQ,oa,A2 (by omega),<-jI]
 rw [List.take_zero,nQ,oa]at h3
 exact⟨_,_,rfl,h3,H⟩
def fD{β' :Type}{p:Rp α}{q' :Rp β'}{x:α×β}{y:γ}{off' :Nat}{x2:β'}(h:kU q q' off u x.2 y x2)(ho:off' =p.sz+off):kU (cC p q) (cC p q') off' u x y (x.1,x2):=fun S cs ds ⟨a,b,e,Y,H⟩ hd=>by
 have hl:=p.len Y
 have h3:=h S b ds H hd
 subst e ho
 refine⟨a,_,?_,Y,h3⟩
 have e1:p.sz+off-a.length=off:=by omega
 have e2:p.sz+off+u.sz-a.length=off+u.sz:=by omega
 rw [List.take_append,List.drop_append,kC (by omega),tM (by omega),e1,e2]
 simp
def ri{α' β' :Type}{p:Rp α}{p' :Rp α'}{f:β->α}{f' :β' ->α'}{x:β}{x' :β'}{y:γ}{z:α'}(h:kU p p' off u (f x) y z)(e:f' x' =z):kU (lO p f) (lO p' f') off u x y x' :=fun S cs ds Y H=>by
 show p'.rc S _ (f' x')
 rw [e]
 exact h S cs ds Y H
section
variable{e:Exit}{ty:TypeId}
def c8{r' :Rp γ}{x:α}{x' :γ}{y:β}{p v:Operand}(ti:TI E.P U sz bytes agg z)(hsz:q.sz=sz)(hset:kU r r' off q x y x')(hoff:Nat.ble (off+q.sz) r.sz=true)(hp:aD E.N G p (tV (aq b off)))(hv:aD E.N G v (X q y))(k:RG E ops Q rest (bx r' aT b x' ::O) G):RG E ops Q (⟨none,.store U p v,ty,pos,after,none⟩::rest) (bx r aT b x::O) G:= .of rfl fun a w S st=>by
 have Y:a.eval p=aq b off:=hp S a st.facts
 obtain⟨ds,H,h3⟩:=hv S a st.facts
 obtain⟨⟨hno,cur,h5,h6⟩,_⟩:=st.own.1
 have hl:=r.len h6
 have hoff' :=lL hoff
 obtain⟨w',hr,e1,e2,e3,e4,e5,e6⟩:=fk ti hsz h3 h5 (off:=off) (by simp at hl;omega)
 have hrun:(execOp a.eval ⟨none,.store U p v,ty,pos,after,none⟩).run E.P w= .ok .skip w' :=by
  simp [execOp,Y,H,Instr.storeAt,aq,Instr.sureAddr,hr]
 refine⟨fun c h=>(by cases h),?_⟩
 rw [hrun]
 obtain⟨g1,g2,g3⟩:=kq (O:=O) st.sat (bx r aT b x) (bx r' aT b x') st.own (fun _=>rX) (fun _=>rX) ⟨e1,e2,e3,e4.1,e4.2⟩ e6 ⟨hno,_,e5,by simpa using hset S _ _ h6 h3⟩ hno
 exact k _ _ S ⟨st.ext.step g1 (fun c hc=>st.own.1.2 c hc),g2,g3,st.facts⟩
end

section
variable{b:Frame}{k:List Item}{cs:List Frame}{F:Fence}
def ko:step P (lone (b.atR a (.code (.scope c)::k)) cs w)= .next (lone (b.atR a (.code c:: .inScope c::k)) cs w):=
 step_lone_go (by simp [stepG,stepG.exec,Frame.atR])
def vp:step P (lone (b.atR a (.inScope c::k)) cs w)= .next (lone (b.atR a k) cs w):=
 step_lone_go (by simp [stepG,stepG.exec,Frame.atR])
def ze(h:c.wpIn F n P (Exit.noGoto Q) a w):(Code.scope c).wpIn F n P Q a w:=by
 intro b k cs hro V hr
 have h0:(lone (b.atR a (.code (.scope c)::k)) cs w).fenced P F:=fenced_calm V hr rfl
 obtain⟨e,a₁,w₁,hq,harr⟩:=h b (.inScope c::k) cs hro V hr
 cases e with
 |normal=>exact⟨.normal,a₁,w₁,hq,.head h0 ko (StepsIn.trans harr (.one (fenced_calm V hr rfl) vp))⟩
 |exit id=>
  have I:exitTo id (.inScope c::k)=exitTo id k:=by simp [exitTo]
  exact⟨.exit id,a₁,w₁,hq,fun k' hk=> .head h0 ko (harr.1 k' (by rw [I];exact hk)),
   fun hr' hk=>let⟨k₁,Y,H⟩:=harr.2 hr' (by rw [I];exact hk);⟨k₁,Y,.head h0 ko H⟩⟩
 |goto l=>exact hq.elim
 |ret=>exact⟨_,a₁,w₁,hq,.of_steps (.one h0 ko) harr⟩
 |panic ch=>exact⟨_,a₁,w₁,hq,.of_steps (.one h0 ko) harr⟩
 |outgrown=>exact⟨_,a₁,w₁,hq,.of_steps (.one h0 ko) harr⟩
end
section
def u8(h:CG E (Exit.noGoto Q) c O G):CG E Q (.scope c) O G:=fun a w S st=>ze (h a w S st)
def u9{l:Nat}(h:AT E Q .normal O G):CG E Q (.label l) O G:=fun a w S st=>wpIn_label (h a w S st)
def mK(h:AT E Q .ret O G):AT E (Exit.noGoto Q) .ret O G:=h
end

def wX [Inhabited α](h:i<m):jE (kE r m) (i*r.sz) r (fun x=>(x[i]?).getD default):=fun S cs x ⟨Y,H⟩=>by
 have hi:x[i]? =some ((x[i]?).getD default):=by rw [lX (by omega)];rfl
 exact oJ H hi
def EP [DecidableEq α] [Inhabited α]{t e:Nat}(D:P.underlying t=some (.array m e))(ti:TI P e sz bytes agg z)(hsz:r.sz=sz)(hag:r.agg=agg)(he:iY P e r n):iY P t (kE r m) (n+1):=fun S cs ds x y d w I hy=>by
 obtain⟨i,zv,hi,hs,_⟩:=ti.get
 have hcell:P.cellsOf e=r.sz:=by unfold Program.cellsOf;rw [hi];simp [hs,hsz]
 have e1:(kE r m).val cs= .agg cs.toArray:=rfl
 have e2:(kE r m).val ds= .agg ds.toArray:=rfl
 rw [e1,e2,show d+(n+1)=(d+n)+1 from rfl,run_equalIn_array w (d+n) cs.toArray ds.toArray D hi,List.range_eq_range',hcell]
 have key: ∀k j,j+k=m->(Op.eqItems (d+n) e r.sz cs.toArray ds.toArray (List.range' j k)).run P w= .ok (decide (x.drop j=y.drop j)) w:=by
  intro k
  induction k with
  |zero=>
   intro j hj
   rw [tM (by have:=I.1;omega),tM (by have:=hy.1;omega)]
   rfl
  |succ k ih=>
   intro j hj
   have hjx:j<x.length:=by have:=I.1;omega
   have hjy:j<y.length:=by have:=hy.1;omega
   have Y:=mC ti hsz hag (wX (r:=r) (m:=m) (i:=j) (by omega)) I w
   have H:=mC ti hsz hag (wX (r:=r) (m:=m) (i:=j) (by omega)) hy w
   have h3:=he S _ _ _ _ d w (wX (r:=r) (m:=m) (i:=j) (by omega) S cs x I) (wX (r:=r) (m:=m) (i:=j) (by omega) S ds y hy)
   rw [List.range'_succ]
   unfold Op.eqItems
   simp only [ow,Y,H,h3,pp]
   have ex:x.drop j=(x[j]?).getD default::x.drop (j+1):=by rw [lX hjx];exact r0 hjx
   have ey:y.drop j=(y[j]?).getD default::y.drop (j+1):=by rw [lX hjy];exact r0 hjy
   rw [ex,ey]
   by_cases hq:(x[j]?).getD default=(y[j]?).getD default
   ·simp only [hq,decide_true,po,rZ,ov]
    rw [ih (j+1) (by omega)]
    congr 1
    simp
   ·simp [hq]
 have:=key m 0 (by omega)
 simpa using this
section
variable{ty:TypeId}
def p5{xs:List Operand}{sz' bytes' :Nat}{agg' :Bool}{z' :List Value}(D:E.P.underlying t=some (.array m aT))(ti:TI E.P aT sz bytes agg z)(hsz:r.sz=sz)(tj:TI E.P t sz' bytes' agg' z')(hz:z'.length=m*r.sz)(hm:m=ys.length)(I:ew E.N G xs (ys.map (X r))):bJ E O G ⟨dst,.build t (qu 0 xs).toArray,ty,pos,after,g⟩ (X (kE r m) ys):=
 .of_pure fun a w S _ _ hF=>by
  obtain⟨zv,hzr,hzc⟩:=tj.zero w
  obtain⟨cs,hc,hfill⟩:=uM ys (xs.map a.eval) 0 [] z' (I.tys hF) (by simp) (by rw [hz,hm])
  subst hsz
  have hparts:((qu 0 xs).toArray.map fun(i,x)=>(i,a.eval x)).toList=s5 0 (xs.map a.eval):=by simpa using sB a.eval 0 xs
  rw [nQ,nQ]at hfill
  refine⟨.agg cs.toArray,?_,cs,rfl,hm.symm,hc⟩
  simp only [execOp,Instr.build,ow,hzr,pp,gy D,ti.sizeOf,hzc,hparts,hfill]
  simp
end
end Go.Proofs.YtbmmihfagmchaaaGreat

