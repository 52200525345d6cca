/- cP of this claim: W16, W17, W18, W19, W20, W22, W23, W24, W25, W26, W28, W30, W31, W32. -/
import Derived.Test.YtbmmihfagmchaaaGreatRbV1
import Derived.RangeFuncRecord
import Derived.RangeFuncLeaves
import Derived.Laws.StructEq
import Derived.Lib.ConvBytes
import Derived.Lib.AppendZeros
import Derived.Laws.MakeOwn
import Derived.MapKept
import Derived.Scope
import Derived.ChangeKeysEq
set_option linter.all false
namespace Go.Proofs.YtbmmihfagmchaaaGreat
open Go

def lD(L:List Oper):Nat->Nat->Nat->Bool
 |0,_,_=>false
 |n+1,i,j=>match L[i]? with
  |some o=>o.after.toList.any fun e=>Region.binds .any e&&(Nat.beq e.on j||lD L n e.on j)
  |none=>false
def tf(L:List Oper)(m:Nat):Bool:=(List.range m).all fun j=>lD L L.length m j
def vf(L:List Oper)(n k:Nat):Bool:=(List.range k).all fun m=>tf L (n+m)&&(match L[n+m]? with|some o=>dx (n+m) o&&o.guard.isNone|none=>false)
variable{L:List Oper}{done:Array Bool}{e:TypeId}{hi:Int}{i:Nat}{j:Int}{n:Nat}{o:Oper}
def fm{L:List Oper}{done:Array Bool}(down: ∀j o,L[j]? =some o->done.getD j false=true-> ∀e∈o.after,Region.binds .any e=true->done.getD e.on false=true):
  ∀(n i j:Nat),(∀o,L[i]? =some o-> ∀e∈o.after,Region.binds .any e=true->done.getD e.on false=true)->lD L n i j=true->done.getD j false=true
 |0,_,_,_,h=>by cases h
 |n+1,i,j,hi,h=>by
  unfold lD at h
  cases ho:L[i]? with
  |none=>rw [ho]at h;cases h
  |some o=>
   rw [ho]at h
   obtain⟨e,he0,V⟩:=vv.1 h
   have he:e∈o.after:=by simpa using he0
   rw [iX,vu]at V
   have hd:=hi o ho e he V.1
   rcases V.2 with Y|Y
   ·rw [<-nD Y];exact hd
   ·exact fm down n e.on j (fun p hp=>down e.on p hp hd) Y
variable{E:En}{G:jM}{O:List OE}{S S' :SH}{a:Act}{d:Nat}{k:IntKind}{l:Option Nat}{t:TypeId}{ts:List Ty}{γ:Type}{u:Rp γ}{w w' :World}
def DJ.stepT{l:List Oper}(h:DJ E O G l ts done a w S){t:Ty}{v:Value}(hi:l[i]? =some o)(hd:o.dst=some d)(hdN:d<E.N.n)(hs2: ∀j p,l[j]? =some p->done.getD j false=true->p.dst=some d->i=j)(hwait: ∀e∈o.after,Region.binds .any e=true->done.getD e.on false=true)(D:ts[i]? =some t)(hun:done.getD i true=false)(hext:gH oT w S w' S')(hsat:jo w' S')(hv:t.p S' v):DJ E O G l ts (done.setIfInBounds i true) (a.put o.dst v) w' S' :=by
 have hda:d<a.tmps.size:=by rw [h.size];exact hdN
 have hlt:i<done.size:=by rw [h.dsz];exact(qf.1 hi).1
 have hset: ∀j,(done.setIfInBounds i true).getD j false=true->j=i\/done.getD j false=true:=fun j hj=>by
  by_cases hij:i=j
  ·exact .inl hij.symm
  ·rw [sf false hij]at hj;exact .inr hj
 have hseti:(done.setIfInBounds i true).getD i false=true:=by simp [hlt]
 have hun' :done.getD i false=false:=by simp [hlt]at hun ⊢;exact hun
 refine⟨h.ext.step0 hext,hsat,h.own.ext0 hext,?_,?_,by simp [h.dsz],fun j p hj hdone e he V=>?_,fun k u hk hno=>?_,fun j p d' u hj hdone hd' hu=>?_⟩
 ·rw [hd];simp [Act.put,h.size]
 ·rw [hd];exact h.defers
 ·rcases hset j hdone with rfl|hj'
  ·rw [hi]at hj
   have:o=p:=by simpa using hj
   subst this
   exact sQ (hwait e he V)
  ·exact sQ (h.down j p hj hj' e he V)
 ·have hne:d≠k:=fun e=>hno i o hi hseti (by rw [hd,e])
  rw [hd,ph hda,bo hne]
  exact u.mono hext.keep (h.old k u hk fun j p hj hdone=>hno j p hj (sQ hdone))
 ·rw [hd,ph hda]
  rcases hset j hdone with rfl|hj'
  ·rw [hi]at hj
   have:o=p:=by simpa using hj
   subst this
   rw [hd]at hd'
   have:d=d' :=by simpa using hd'
   subst this
   rw [bD rfl]
   rw [D]at hu
   have:t=u:=by simpa using hu
   subst this
   exact hv
  ·have hne:d≠d' :=fun e=>by
    subst e
    have:=hs2 j p hj hj' hd'
    subst this
    rw [hj']at hun';cases hun'
   rw [bo hne]
   exact u.mono hext.keep (h.new j p d' u hj hj' hd' hu)
def my(h:i<done.size):done.getD i true=done.getD i false:=by simp [h]
def q8(h:jG done=0)(hi:i<done.size):done.getD i false=true:=by
 unfold jG at h
 rw [List.countP_eq_zero]at h
 have J:done[i]∈done.toList:=by simp
 have:=h _ J
 rw [<-my hi]
 simpa [hi] using this
variable{P:Program}{Q:Exit->Act->World->Prop}{f:FuncId}{α β:Type}{m:Nat}{q:Rp β}{r:Rp α}{rest:List Oper}{xs:List α}
def vC{r:Option Nat}(hc: ∀m o,n<=m->L[m]? =some o->tf L m=true)(hedge: ∀m o,L[m]? =some o->dx m o=true):
  ∀(rest:List Oper) (m:Nat) (done:Array Bool) (fuel:Nat) (a:Act) (w:World),n<=m->L.drop m=rest->done.size=L.length->(∀j,j<L.length->(done.getD j false=true↔j<m))->jG done=fuel->
   wpListIn (fw r) 0 P L.toArray Q rest a w->wpAnyIn (fw r) 0 P .any L.toArray Q fuel done a w:=by
 intro rest
 induction rest with
 |nil=>
  intro m done fuel a w hnm hdrop hsz hdone hu h
  have hlen:L.length<=m:=Bi.1 hdrop
  have hr:Region.ready .any L.toArray done=[]:=by
   cases hr:Region.ready .any L.toArray done with
   |nil=>rfl
   |cons i r=>
    have hm:i∈Region.ready .any L.toArray done:=by rw [hr];exact lK ..
    obtain⟨hun,o,ho,_⟩:=qr.1 hm
    have hi:i<L.length:=by simpa using (vx.1 ho).1
    have:=(hdone i hi).2 (by omega)
    rw [my (by omega)]at hun
    rw [hun]at this;cases this
  cases fuel with
  |zero=>exact⟨hr,h⟩
  |succ f=>exact⟨fun _=>h,fun i hi=>by rw [hr]at hi;cases hi⟩
 |cons o rest ih=>
  intro m done fuel a w hnm hdrop hsz hdone hu h
  have hm:m<L.length:=by
   rcases ll m L.length with h' |h'
   ·exact h'
   ·rw [Bi.2 h']at hdrop;cases hdrop
  have hLm:L[m]? =some o:=by
   have:=tW (xs:=L) (i:=m) (j:=0)
   rw [hdrop]at this
   simpa using this.symm
  have hmu:done.getD m true=false:=by
   have hnot: ¬(done.getD m false=true):=fun J=>by have:=(hdone m hm).1 J;omega
   rw [my (by omega)]
   exact wp _▸hnot
  have honly: ∀i∈Region.ready .any L.toArray done,i=m:=by
   intro i hi
   obtain⟨hun,p,hp,hwait⟩:=qr.1 hi
   have hp' :L[i]? =some p:=by simpa using hp
   have hil:i<L.length:=(qf.1 hp').1
   have hid: ¬i<m:=fun hlt=>by
    have J:=(hdone i hil).2 hlt
    rw [my (by omega)]at hun
    rw [hun]at J;cases J
   rcases ll m i with hlt|hge
   ·exfalso
    have hcov:=hc i p (by omega) hp'
    unfold tf at hcov
    have hre:=jK.1 hcov m (by simpa using hlt)
    have:done.getD m false=true:=by
     refine fm (L:=L) (done:=done) (fun j q hj hjd e he V=>?_) _ i m (fun q hq e he V=>?_) hre
     ·have hjl:j<L.length:=(qf.1 hj).1
      have hjm:=(hdone j hjl).1 hjd
      have:=hedge j q hj
      unfold dx at this
      have:=jK.1 this e (by simpa using he)
      simp only [V,nC,tZ,tA]at this
      exact(hdone e.on (by omega)).2 (by omega)
     ·have:q=p:=by rw [hp']at hq;simpa using hq.symm
      subst this
      exact hwait e he V
    have:=(hdone m hm).1 this
    omega
   ·omega
  have hready:m∈Region.ready .any L.toArray done:=by
   rw [qr]
   refine⟨hmu,o,by simpa using hLm,fun e he V=>?_⟩
   have:=hedge m o hLm
   unfold dx at this
   have:=jK.1 this e (by simpa using he)
   simp only [V,nC,tZ,tA]at this
   exact(hdone e.on (by omega)).2 this
  cases fuel with
  |zero=>
   have:=q8 hu (i:=m) (by omega)
   have:=(hdone m hm).1 this
   omega
  |succ fuel=>
   refine⟨fun hr=>(by rw [hr]at hready;cases hready),fun i hi=>?_⟩
   have:=honly i hi
   subst this
   have hnext:=fun a w=>ih (i+1) (done.setIfInBounds i true) fuel a w (by omega) (by rw [<-pX,hdrop];rfl) (by simpa using hsz) (fun j hj=>by
    by_cases hij:i=j
    ·subst hij;have:i<done.size:=by omega
     simp [this]
    ·rw [sf false hij,hdone j hj];omega) (by have:=oK hmu;omega)
   unfold wpOpIn
   have hLm' :L.toArray[i]? =some o:=by simpa using hLm
   rw [hLm']
   show if _ then _ else _
   unfold wpListIn at h
   by_cases hw:Region.wanted o (yielded L.toArray a.tmps)=true
   ·rw [bD hw]at h ⊢;exact Oper.wpIn_mono (fun a w hk=>hnext a w hk) h
   ·rw [bo hw]at h ⊢;exact⟨h.1,hnext _ _ h.2⟩
def DE{l t:List Oper}(hsl:sU E.N.n [] l=true)(hlen:ts.length=l.length)(hd:DR E O G (l++t) ts 0 l)(D:vf (l++t) l.length t.length=true)(hQ: ∀a w S,St E O (F3 l ts G) a w S->wpListIn (fw E.r) 0 E.P (l++t).toArray Q t a w):
  ∀(fuel:Nat) (done:Array Bool) (a:Act) (w:World) (S:SH),jG done=fuel->(∀j,l.length<=j->done.getD j false=false)->DJ E O G (l++t) ts done a w S->wpAnyIn (fw E.r) 0 E.P .any (l++t).toArray Q fuel done a w:=by
 have hL1: ∀i o,i<l.length->(l++t)[i]? =some o->l[i]? =some o:=fun i o hi h=>by rwa [u4 hi]at h
 have hL2: ∀i o,l[i]? =some o->(l++t)[i]? =some o:=fun i o h=>by rw [u4 (qf.1 h).1];exact h
 have htail: ∀m o,l.length<=m->(l++t)[m]? =some o->tf (l++t) m=true/\dx m o=true:=fun m o hm ho=>by
  have hml:m<(l++t).length:=(qf.1 ho).1
  rw [jE]at hml
  unfold vf at D
  have:=jK.1 D (m-l.length) (by simp;omega)
  rw [show l.length+(m-l.length)=m from by omega,ho]at this
  simp only [iX]at this
  exact⟨this.1,this.2.1⟩
 have hedge: ∀i o,(l++t)[i]? =some o->dx i o=true:=fun i o hi=>by
  rcases ll i l.length with h|h
  ·obtain⟨_,_,_,_,_,h,_⟩:=DR.get l 0 hd i o (hL1 i o h hi)
   simpa using h
  ·exact(htail i o h hi).2
 obtain⟨hs1,hs2⟩:=t8 l [] hsl
 have fin: ∀fuel done a w S,jG done=fuel->(∀j,l.length<=j->done.getD j false=false)->DJ E O G (l++t) ts done a w S->(∀i,i<l.length->done.getD i false=true)->wpAnyIn (fw E.r) 0 E.P .any (l++t).toArray Q fuel done a w:=by
  intro fuel done a w S hu hfree h hall
  refine vC (n:=l.length) (fun m o hm ho=>(htail m o hm ho).1) hedge t l.length done fuel a w (iQ _) (by simp) h.dsz (fun j hj=>⟨fun hjd=>?_,fun hlt=>hall j hlt⟩) hu
   (hQ a w S ⟨h.ext,h.sat,h.own,h.size,h.defers,fun j u hj=>?_⟩)
  ·rcases ll j l.length with h' |h'
   ·exact h'
   ·rw [hfree j h']at hjd;cases hjd
  ·rcases B0 l ts j u (fun o ho e=>by obtain⟨d,hd,_⟩:=hs1 o ho;rw [hd]at e;cases e) hlen hj with⟨i,o,Y,J,Z⟩|⟨Y,J⟩
   ·exact h.new i o j u (hL2 i o Y) (hall i (qf.1 Y).1) J Z
   ·refine h.old j u Y fun i o ho hdn=>?_
    rcases ll i l.length with h' |h'
    ·exact J o (rZ (hL1 i o h' ho))
    ·rw [hfree i h']at hdn;cases hdn
 have lower: ∀done a w S i,(∀j,l.length<=j->done.getD j false=false)->DJ E O G (l++t) ts done a w S->i∈Region.ready .any (l++t).toArray done->l.length<=i-> ∀j,j<l.length->done.getD j false=true:=by
  intro done a w S i hfree h hi hge j hj
  obtain⟨hun,p,hp,hwait⟩:=qr.1 hi
  have hp' :(l++t)[i]? =some p:=by simpa using hp
  have hcov:=(htail i p hge hp').1
  unfold tf at hcov
  have hre:=jK.1 hcov j (by simp;omega)
  exact fm h.down _ i j (fun q hq e he V=>by
   have:q=p:=by rw [hp']at hq;simpa using hq.symm
   subst this
   exact hwait e he V) hre
 intro fuel
 induction fuel with
 |zero=>
  intro done a w S hu hfree h
  exact fin 0 done a w S hu hfree h fun i hi=>q8 hu (by rw [h.dsz,jE];omega)
 |succ fuel ih=>
  intro done a w S hu hfree h
  by_cases hall: ∀i,i<l.length->done.getD i false=true
  ·exact fin _ done a w S hu hfree h hall
  have hready0: ∀m i,i<m->i<l.length->Region.ready .any (l++t).toArray done=[]->done.getD i false=true:=by
   intro m
   induction m with
   |zero=>intro i h;omega
   |succ m ihm=>
    intro i him hil hr
    have his:i<done.size:=by rw [h.dsz,jE];omega
    by_cases hdn:done.getD i true=true
    ·rw [<-my his];exact hdn
    ·exfalso
     obtain⟨o,ho⟩: ∃o,(l++t)[i]? =some o:=⟨l[i],hL2 i _ (qY hil)⟩
     have hmem:i∈Region.ready .any (l++t).toArray done:=by
      rw [qr]
      refine⟨by simpa using hdn,o,by simpa using ho,fun e he V=>?_⟩
      have:=hedge i o ho
      unfold dx at this
      have:=jK.1 this e (by simpa using he)
      simp only [V,nC,tZ,tA]at this
      exact ihm e.on (by omega) (by omega) hr
     rw [hr]at hmem;cases hmem
  refine⟨fun hr=>absurd (fun i hi=>hready0 (i+1) i (by omega) hi hr) hall,fun i hi=>?_⟩
  have hil:i<l.length:=by
   rcases ll i l.length with h' |h'
   ·exact h'
   ·exact absurd (lower done a w S i hfree h hi h') hall
  obtain⟨hun,o,ho,hwait⟩:=qr.1 hi
  have ho' :(l++t)[i]? =some o:=by simpa using ho
  have hol:=hL1 i o hil ho'
  obtain⟨needs,u,Y,J,Z,_,h5⟩:=DR.get l 0 hd i o hol
  rw [pL]at Y Z
  have hF:=h.need ho' hun hwait J Z
  have h6:=h5 a w S h.sat h.own hF
  have hu' :jG (done.setIfInBounds i true)=fuel:=by have:=oK hun;omega
  obtain⟨d,hdd,hdN,_⟩:=hs1 o (rZ hol)
  have huq: ∀j p,(l++t)[j]? =some p->done.getD j false=true->p.dst=some d->i=j:=fun j p hj hjd hpd=>by
   rcases ll j l.length with h' |h'
   ·exact hs2 i j o p hol (hL1 j p h' hj) (by rw [hdd,hpd])
   ·rw [hfree j h']at hjd;cases hjd
  have hfree' : ∀j,l.length<=j->(done.setIfInBounds i true).getD j false=false:=fun j hj=>by
   rw [sf false (by omega)];exact hfree j hj
  unfold wpOpIn
  rw [ho]
  show if _ then _ else _
  by_cases hw:Region.wanted o (yielded (l++t).toArray a.tmps)=true
  ·rw [bD hw]at h6 ⊢
   refine js (fun a' w' ⟨v,S',ha,he,hs,hv⟩=>?_) h6
   subst ha
   exact ih _ _ _ S' hu' hfree' (h.stepT ho' hdd hdN huq hwait Y hun he hs hv)
  ·rw [bo hw]at h6 ⊢
   exact⟨fun _ _=>trivial,ih _ _ _ S hu' hfree' (h.stepT ho' hdd hdN huq hwait Y hun (gH.refl _ _ _) h.sat h6)⟩
def Lh{id:Nat}{l t:List Oper}(hL:L=l++t)(hm:E.P.follows .mixedOrders=true)(hsl:sU E.N.n [] l=true)(hlen:ts.length=l.length)(D:vf L l.length t.length=true)(hd:DR E O G L ts 0 l)(k:RG E L.toArray Q t O (F3 l ts G)):CG E Q (.region id L.toArray true) O G:=fun a w S st=>by
 subst hL
 refine wpIn_region_any hm ?_
 obtain⟨he,hs⟩:=uF (w:=w) st.sat
 refine DE hsl hlen hd D (fun a w S st=>k a w S st) _ _ _ _ S ?_ (fun j _=>?_)
  ⟨st.ext.step0 he,hs,st.own.ext0 he,st.facts.size,st.facts.defers,by simp,fun j o hj hdone=>?_,fun k t hk _=>st.facts.at_ k t hk,fun j o d t hj hdone=>?_⟩
 ·unfold jG;rw [GX,GV];simp
 ·simp [vw];split<;>rfl
 ·simp [vw]at hdone
  split at hdone<;>simp at hdone
 ·simp [vw]at hdone
  split at hdone<;>simp at hdone

abbrev It(α:Type):=(σ:Type)->(α->σ->Option (Bool×σ))->σ->Option σ

def vg(Se:SH)(O:List OE):OE where
 fp:=fun k=> ∃f∈O,f.fp k
 p:=fun w S=>SH.le Se S/\cZ 0 oT w S O
 here:=fun⟨_,h⟩ _ ⟨f,X,hk⟩=>f.here (cZ.mem h f X).1 _ hk
 kept:=fun⟨Y,J⟩ k hC=>⟨SH.le_trans Y k.keep,J.ext k fun f X b V=>hC b ⟨f,X,V⟩⟩
variable{B:Nat->Prop}{base:Nat}
def cZ.weak: ∀{O:List OE},cZ base B w S O->cZ 0 oT w S O
 |[],_=>trivial
 |_::_,⟨Y,J,Z⟩=>⟨⟨Y.1,fun _ _=> .inl (mC _)⟩,J,cZ.weak Z⟩
def mB: ∀{O:List OE},cZ 0 oT w S O->(∀f∈O,∀k,f.fp k->base<=k\/B k)->cZ base B w S O
 |[],_,_=>trivial
 |_::_,⟨Y,J,Z⟩,h=>⟨⟨Y.1,h _ (lK ..)⟩,J,mB Z fun f X=>h f (mZ _ X)⟩
def Gx(b:Nat):OE where
 fp:=fun k=>k=b
 p:=fun w S=>S b=none/\w.heap[b]? =some (.deferred (some []))
 here:=by
  intro w S h k hk
  subst hk
  exact(vx.1 h.2).1
 kept:=by
  intro C w w' S S' h k hC
  have hlt:=(vx.1 h.2).1
  exact⟨by rw [k.old b hlt (hC b rfl)];exact h.1,by rw [k.heap b hlt (hC b rfl)];exact h.2⟩
def yK(b:Nat):Deferred:={target:= .collected b,args:= #[]}

def RL(P:Program){α σ:Type}(args:α->List Ty)(y:α->σ->Option (Bool×σ))(hx:σ->OE->Prop)(yv:Value):Prop:=
 ∃l,yv= .func (.yield l) #[] #[]/\ ∀x s r,y x s=some r-> ∀e,hx s e-> ∀w S vs,jo w S->e.p w S->tM S (args x) vs->
  ∃f tmps assign body,(Instr.yield l vs.toArray).run P w= .ok (.round l f tmps assign body) w/\
   RoundIn (fw none) 0 P l f tmps assign body w fun en w' => ∃e' S',en= .returned (.bool r.1)/\hx r.2 e' /\gH e.fp w S w' S' /\jo w' S' /\e'.p w' S' /\ ∀k,e'.fp k->e.fp k\/w.heap.size<=k
variable{after:Array Edge}{ats:Array TypeId}{b:Nat}{c:Code}{ops:Array Oper}{pos:String}{x:Operand}{y:α}
section
variable{ty:TypeId}
def JF{e e' :OE}{O:List OE}(h:cZ base B w S (e::O))(k:gH e.fp w S w' S')(hp:e'.p w' S')(hn: ∀b,e'.fp b->e.fp b\/w.heap.size<=b)(V:base<=w.heap.size):cZ base B w' S' (e' ::O):=
 ⟨⟨hp,fun b hb' =>(hn b hb').elim (fun J=>h.1.2 b J) (fun J=> .inl (by omega))⟩,fun f X b hb' hfb=>(hn b hb').elim (fun J=>h.2.1 f X b J hfb) (fun J=>by
  have:=f.here (cZ.mem h.2.2 f X).1 b hfb
  omega),h.2.2.ext k fun f X b hb' J=>h.2.1 f X b J hb'⟩
def K9{σ:Type}{args:α->List Ty}{y:α->σ->Option (Bool×σ)}{hx:σ->OE->Prop}{yv:Value}{x:α}{s:σ}{r:Bool×σ}{e:OE}{fo:Operand}{xs:List Operand}(hy:RL E.P args y hx yv)(he:hx s e)(hq:y x s=some r)(X:aE E.N G fo (tV yv))(I:hG E.N G xs (args x))(hd:Nat.blt d E.N.n=true)(k: ∀e',hx r.2 e' ->RG E ops Q rest (e' ::O) ((d,H rB r.1)::G)):RG E ops Q (⟨some d,.call ⟨.value fo,xs.toArray,ats⟩,ty,pos,after,none⟩::rest) (e::O) G:= .of rfl fun a w S st=>by
 obtain⟨l,rfl,hyl⟩:=hy
 have Y:a.eval fo= .func (.yield l) #[] #[]:=X S a st.facts
 obtain⟨f,tmps,assign,body,J,Z⟩:=hyl x s r hq e he w S _ st.sat st.own.1.1 (I.tys st.facts)
 have hr:(execOp a.eval ⟨some d,.call ⟨.value fo,xs.toArray,ats⟩,ty,pos,after,none⟩).run E.P w= .ok (.round l f tmps assign body) w:=by
  simp [execOp,resolve,Y,Deferred.ofValue,invoke]
  simpa using J
 refine⟨fun c h=>(by cases h),?_⟩
 rw [hr]
 refine Z.mono fun en w' ⟨e',S',h4,h5,h6,h7,h8,h9⟩=>⟨_,h4,?_⟩;exact k e' h5 _ _ S' ⟨st.ext.step h6 (fun b V=>st.own.1.2 b V),h7,JF st.own h6 h8 h9 st.base_le,(st.facts.mono h6.keep).put hd (i8.2 rfl)⟩
end
def Hp:List OE->List OE->Prop
 |[],_=>True
 |f::O,g::O' =>(∀k,f.fp k->g.fp k)/\Hp O O'
 |_::_,[]=>False
variable{g:Option (Nat×Bool)}
def Hp.mem: ∀{O O' :List OE},Hp O O' -> ∀k,(∃f∈O,f.fp k)-> ∃f∈O',f.fp k
 |f::O,g::O',⟨Y,J⟩,k,⟨q,hq,hk⟩=>by
  rcases fT.1 hq with e|e
  ·subst e;exact⟨g,lK ..,Y k hk⟩
  ·obtain⟨q',Z,h4⟩:=Hp.mem J k ⟨q,e,hk⟩
   exact⟨q',mZ _ Z,h4⟩

variable{O1:List OE}{ι:Type}{O2:ι->List OE}
def mA: ∀{O1 O2:List OE},cZ base B w S (O1++O2)->cZ base B w S O1/\cZ base B w S O2/\ ∀e∈O1,∀f∈O2,e.apart f
 |[],_,h=>⟨trivial,h,fun _ h=>(by cases h)⟩
 |e::O1,O2,⟨Y,J,Z⟩=>by
  obtain⟨k1,k2,k3⟩:=mA Z
  refine⟨⟨Y,fun f X=>J f (BH _ X),k1⟩,k2,fun g T f X=>?_⟩
  rcases fT.1 T with rfl|T
  ·exact J f (List.mem_append_right _ X)
  ·exact k3 g T f X
def cZ.cons{e:OE}(Y:e.holds base B w S)(J: ∀f∈O,e.apart f)(Z:cZ base B w S O):cZ base B w S (e::O):=⟨Y,J,Z⟩

section
section
variable{ty:TypeId}
end
end

def D2:List Nat->List Ty->jM->jM
 |d::ds,t::ts,G=>D2 ds ts ((d,t)::G)
 |_,_,G=>G
variable{N:Nat}
def AF{N:Fr}{S:SH}: ∀(ds:List Nat) (ts:List Ty) (vs:List Value) (a:Act) (G:jM),ds.length=ts.length->tM S ts vs->(ds.all fun d=>Nat.blt d N.n)=true->cP N S a G->
  cP N S {tmps:=(ds.zip vs).foldl (fun t (p:Nat×Value)=>t.setIfInBounds p.1 p.2) a.tmps,defers:=a.defers} (D2 ds ts G)
 |[],_,_,_,_,hl,_,_,hF=>by
  cases tX hl.symm
  simpa [D2] using hF
 |d::ds,[],_,_,_,hl,_,_,_=>by simp at hl
 |d::ds,t::ts,[],_,_,_,hv,_,_=>hv.elim
 |d::ds,t::ts,v::vs,a,G,hl,⟨Y,J⟩,hd,hF=>by
  simp only [vb,iX]at hd
  have:=AF ds ts vs (a.put (some d) v) ((d,t)::G) (by simpa using hl) J hd.2 (hF.put hd.1 Y)
  simpa [D2,Act.put] using this
def Rx(E:En)(l:Nat)(body:Code)(R:Ending->World->Prop):Exit->Act->World->Prop:=
 Exit.then (fun a₁ w₁=> ∃w₂,(Instr.beginRound l).run E.P w₁= .ok () w₂/\body.wpIn (fw E.r) 0 E.P (roundPost E.P l R) a₁ w₂) (fun _ _ _=>False)
section
def y7{ps:Array Nat}{vs:List Value}{tmps:Array Value}:(ps.zip vs.toArray).foldl (fun t (p,v)=>t.setIfInBounds p v) tmps=(ps.toList.zip vs).foldl (fun t (p:Nat×Value)=>t.setIfInBounds p.1 p.2) tmps:=by
 rw [<-Array.foldl_toList]
 simp
end

variable{S0:SH}{fn:Func}{w0:World}
section
variable{R:Ending->World->Prop}{ds:List Deferred}
def A9(h:AT ⟨P,⟨N,[]⟩,B,w0,S0,none⟩ (bodyPost P fn R) .ret O G):AT ⟨P,⟨N,[]⟩,B,w0,S0,none⟩ (bodyPostM (fw none) 0 P fn R) .ret O G:=fun a w S st=>by
 obtain⟨Y,v,J,Z⟩:=h a w S st
 show LeavesInM (fw none) 0 P fn a.tmps R a.defers .returning w
 rw [Y]
 exact⟨v,J,Z⟩
def HP(h:AT ⟨P,⟨N,ds⟩,B,w0,S0,none⟩ (bodyPostM (fw none) 0 P fn R) .ret O G):AT ⟨P,⟨N,yK b::ds⟩,B,w0,S0,none⟩ (bodyPostM (fw none) 0 P fn R) .ret (Gx b::O) G:=fun a w S st=>by
 show LeavesInM (fw none) 0 P fn a.tmps R a.defers .returning w
 rw [st.facts.defers]
 obtain⟨hno,V⟩:=st.own.1.1
 have hlt:=(vx.1 V).1
 have hext:gH (fun k=>k=b) w S (w.putObj b (.deferred none)) S:=⟨rfl,rfl,rfl,iQ _,by simp,fun k _ hk=>World.putObj_heap_other hk,SH.le_refl _,fun _ _ _=>rfl⟩
 have hsat:jo (w.putObj b (.deferred none)) S:=st.sat.same fun k o hk=>by
  have hne:k≠b:=fun e=>by subst e;rw [hno]at hk;cases hk
  exact World.putObj_heap_other hne
 have:=h {a with defers:=ds} (w.putObj b (.deferred none)) S ⟨st.ext.step hext (fun c hc=>st.own.1.2 c hc),hsat,st.own.2.2.ext hext (fun g T k hk hkb=>st.own.2.1 g T k hkb hk),⟨st.facts.size,rfl,st.facts.at_⟩⟩
 exact⟨by simp,.inl ⟨b,_,rfl,run_takeDeferred V,this⟩⟩
end
def K8{t:Ty}(X:P.funcs[f]? =some fn)(V:fn.body=some c)(hN:fn.ntmps=N)(hn:Nat.ble ts.length N=true)(h: ∀w0 S0,CG ⟨P,⟨N,[]⟩,oT,w0,S0,none⟩ (bodyPostM (fw none) 0 P fn (EV ⟨P,⟨N,[]⟩,oT,w0,S0,none⟩ t)) c [] (sy 0 ts)):cI P f ts t:=by
 subst hN
 intro w S vs hs hv
 exact ma.1 (callsIn_of_wp_marks (F:=fw none) (n:=0) X V trivial (h w S _ w S ⟨gH.refl _ _ _,hs,trivial,oX hv _ (po hn)⟩))

def rT(t:Ty):Rp Unit where
 sz:=1
 agg:=false
 rc:=fun S cs _=> ∃v,cs=[v]/\v.oneCell' =true/\t.p S v
 mono:=fun h ⟨v,e,k,l⟩=>⟨v,e,k,t.mono h l⟩
 len:=fun⟨_,e,_⟩=>by rw [e];rfl
 one:=fun⟨v,e,k,_⟩ c hc=>by rw [e]at hc;simp at hc;subst hc;exact k
 sc:=fun _=>rfl
def RS{t:Ty}{u:Unit}{v:Value}:(H (rT t) u).p S v↔v.oneCell' =true/\t.p S v:=by
 constructor
 ·rintro⟨cs,rfl,w,rfl,Y,J⟩;exact⟨Y,J⟩
 ·rintro⟨Y,J⟩;exact⟨[v],rfl,v,rfl,Y,J⟩
variable{hg U:TypeId}{agg:Bool}{bytes cap:Nat}{dst:Option Tmp}{get:α->β}{k' :IntKind}{lo:Int}{off sz:Nat}{ys:List α}{z:List Value}
section
variable{ty:TypeId}
def bR.imp{t u:Ty}(h:bR E O G o t)(k: ∀S v,t.p S v->u.p S v):bR E O G o u:=fun a w S hs ho X=>
 mj (fun _ _ ⟨v,S',Y,J,Z,h4⟩=>⟨v,S',Y,J,Z,k S' v h4⟩) (h a w S hs ho X)
def wO{t:Ty}{p:Operand}(ti:TI E.P U 1 bytes false z)(hp:aE E.N G p (bw (rT t) ())):bR E O G ⟨dst,.load U p,ty,pos,after,g⟩ t:=
 (ic (r:=rT t) (x:=()) ti rfl rfl hp).imp fun _ _ h=>(RS.1 h).2

def Jz:rV.rc S [.slice none 0 0] (aK none 0 0):=⟨rfl,rfl⟩
def Bx{N:Fr}(h:aE N G x (tV (aK l cap n))):aE N G x (H rV (aK l cap n)):=fun S a X=>p6.2 ⟨h S a X,by cases l<;>rfl⟩
def kS{p:Operand}(ti:TI E.P U 1 bytes false z)(hm:bx rV hg b (aK l cap n)∈O)(hp:aE E.N G p (tV (ax b 0))):
  bR E O G ⟨dst,.load U p,ty,pos,after,g⟩ (tV (aK l cap n)):=(bf (q:=rV) (get:=fun x=>x) ti rfl rfl bN hm hp).imp fun _ _ h=>(p6.1 h).1

def db{α:Type}(xs:List α)(lo hi:Int):Option (List α):=if 0<=lo/\lo<=hi/\hi<=(xs.length:Int)then some ((xs.take hi.toNat).drop lo.toNat)else none
def fa(h:db xs lo hi=some ys): ∃l m:Nat,lo=l/\hi=m/\l<=m/\m<=xs.length/\ys=(xs.take m).drop l:=by
 unfold db at h
 split at h
 ·rename_i hc
  exact⟨lo.toNat,hi.toNat,by omega,by omega,by omega,by omega,by simpa using h.symm⟩
 ·cases h
def vH{a:Option Addr}{l:Nat}(h:DO r S a xs)(hl:l<=m)(hm:m<=xs.length)(hc:xs.length<=cap):
  DO r S (if cap=l then a else a.map (·.add (l*r.sz))) ((xs.take m).drop l):=by
 by_cases hlm:l=m
 ·left;subst hlm;simp
 right
 rcases h with h|⟨b,off,c,hg,fr,e1,e2,e3⟩
 ·subst h;simp at hm;omega
 subst e1
 have hne: ¬(cap=l):=by omega
 refine⟨b,off+l*r.sz,c,hg,fr,?_,e2,?_⟩
 ·rw [bo hne];simp [Addr.add]
 have hlen:((xs.take m).drop l).length=m-l:=by simp;omega
 have e4:xs=(xs.take m).take l++((xs.take m).drop l++xs.drop m):=by
  rw [<-jr,r0,r0]
 have Y:((xs.take m).take l).length=l:=by simp;omega
 rw [e4]at e3
 have J:=(oP e3).2
 have Z:=(oP J).1
 rw [Y]at Z
 rw [hlen]at Z ⊢
 rw [<-e4]at Z
 rw [zj,vt,pX]at Z
 have hmin:min ((m-l)*r.sz) (xs.length*r.sz-l*r.sz)=(m-l)*r.sz:=by
  rw [<-Nat.sub_mul];exact u3 (wq _ (by omega))
 rwa [hmin]at Z
def iu{n:Int}{y:Nat}{code:BoundsCode}(h0:0<=n)(Y:n<=y):(Instr.sliceBound (.int k n) y code).run P w= .ok n.toNat w:=by
 simp [Instr.sliceBound,asIntOf,h0,Y]
def Ig{lo hi:Operand}{i:Int}(D:E.P.underlying t=some (.slice hg))(ti:TI E.P hg sz bytes agg z)(hsz:r.sz=sz)(I:aE E.N G x (H (gy r) xs))(hlo:aE E.N G lo (H (rI k) i))(hhi:aE E.N G hi (H (rI k') j))(h:db xs i j=some ys):bR E O G ⟨dst,.slice t x (some lo) (some hi) none,ty,pos,after,g⟩ (H (gy r) ys):=
 .of_pure fun a w S _ _ X=>by
  subst hsz
  obtain⟨ad,cap,Y,J,Z,h4⟩:=lC.1 (I S a X)
  have h5:=eZ.1 (hlo S a X)
  have h6:=eZ.1 (hhi S a X)
  obtain⟨l,m,rfl,rfl,h7,h8,rfl⟩:=fa h
  have hlen:((xs.take m).drop l).length=m-l:=by simp;omega
  refine⟨.slice (if cap=l then ad else ad.map (·.add (l*r.sz))) (m-l) (cap-l),?_,lC.2 ⟨_,cap-l,by rw [hlen],by omega,by omega,vH h4 h7 h8 J⟩⟩
  simp [execOp,Instr.sliceAt,Y,h5,h6,Instr.slice,jD D,Instr.sliceBounds,iu (k:=k') (n:=(m:Int)) (y:=cap) (by omega) (by omega),iu (k:=k) (n:=(l:Int)) (y:=m) (by omega) (by omega),ti.sizeOf]
def oR{hi:Operand}(D:E.P.underlying t=some (.slice hg))(ti:TI E.P hg sz bytes agg z)(hsz:r.sz=sz)(I:aE E.N G x (H (gy r) xs))(hhi:aE E.N G hi (H (rI k') j))(h:db xs 0 j=some ys):bR E O G ⟨dst,.slice t x none (some hi) none,ty,pos,after,g⟩ (H (gy r) ys):=
 .of_pure fun a w S _ _ X=>by
  subst hsz
  obtain⟨ad,cap,Y,J,Z,h4⟩:=lC.1 (I S a X)
  have h6:=eZ.1 (hhi S a X)
  obtain⟨l,m,hl,rfl,h7,h8,rfl⟩:=fa h
  have hl0:l=0:=by omega
  subst hl0
  have hlen:((xs.take m).drop 0).length=m-0:=by simp;omega
  refine⟨.slice (if cap=0 then ad else ad.map (·.add (0*r.sz))) (m-0) (cap-0),?_,lC.2 ⟨_,cap-0,by rw [hlen],by omega,by omega,vH h4 h7 h8 J⟩⟩
  simp [execOp,Instr.sliceAt,Y,h6,Instr.slice,jD D,Instr.sliceBounds,iu (k:=k') (n:=(m:Int)) (y:=cap) (by omega) (by omega),ti.sizeOf]
def F6{lo:Operand}{i:Int}(D:E.P.underlying t=some (.slice hg))(ti:TI E.P hg sz bytes agg z)(hsz:r.sz=sz)(I:aE E.N G x (H (gy r) xs))(hlo:aE E.N G lo (H (rI k) i))(h:db xs i (xs.length:Int)=some ys):bR E O G ⟨dst,.slice t x (some lo) none none,ty,pos,after,g⟩ (H (gy r) ys):=
 .of_pure fun a w S _ _ X=>by
  subst hsz
  obtain⟨ad,cap,Y,J,Z,h4⟩:=lC.1 (I S a X)
  have h5:=eZ.1 (hlo S a X)
  obtain⟨l,m,rfl,hm,h7,h8,rfl⟩:=fa h
  have hm' :m=xs.length:=by omega
  subst hm'
  have hlen:((xs.take xs.length).drop l).length=xs.length-l:=by simp
  refine⟨.slice (if cap=l then ad else ad.map (·.add (l*r.sz))) (xs.length-l) (cap-l),?_,lC.2 ⟨_,cap-l,by rw [hlen],by omega,by omega,vH h4 h7 h8 J⟩⟩
  simp [execOp,Instr.sliceAt,Y,h5,Instr.slice,jD D,Instr.sliceBounds,iu (k:=k) (n:=(l:Int)) (y:=xs.length) (by omega) (by omega),ti.sizeOf]
end
def kh{id:Nat}(m:Nat)(hm:E.P.follows .mixedOrders=true)(hsl:sU E.N.n [] (L.take m)=true)(hlen:ts.length=(L.take m).length)(D:vf L (L.take m).length (L.drop m).length=true)(hd:DR E O G L ts 0 (L.take m))(k:RG E L.toArray Q (L.drop m) O (F3 (L.take m) ts G)):CG E Q (.region id L.toArray true) O G:=Lh (r0 m L).symm hm hsl hlen D hd k

def lH(P:Program){α:Type} [DecidableEq α](t:TypeId)(r:Rp α)(n:Nat):Prop:=
 ∀(S:SH) (cs ds:List Value) (x y:α) (d:Nat) (w:World),r.rc S cs x->r.rc S ds y->(Op.equalIn (d+n) t (r.val cs) (r.val ds)).run P w= .ok (decide (x=y)) w
def rt(h:P.underlying t=some (.int k')):lH P t (rI k) (n+1):=fun S cs ds x y d w I hy=>by
 have Y:cs=[.int k x]:=I
 have J:ds=[.int k y]:=hy
 subst Y J
 have:(Op.equalIn (d+n+1) t (.int k x) (.int k y)).run P w= .ok (x==y) w:=by simp [Op.equalIn,jD h]
 have e:(x==y)=decide (x=y):=by by_cases h:x=y<;>simp [h]
 rw [e]at this
 exact this
def MT(h:P.underlying t=some .string):lH P t rS (n+1):=fun S cs ds x y d w I hy=>by
 have Y:cs=[.string ⟨x.toArray⟩]:=I
 have J:ds=[.string ⟨y.toArray⟩]:=hy
 subst Y J
 have:=run_equalIn_string (P:=P) w (d+n) t ⟨x.toArray⟩ ⟨y.toArray⟩ h
 simp only [Rp.val,rS,List.headD_cons,kP,iB]
 rw [show d+(n+1)=d+n+1 from rfl,this]
 simp only [ByteArray.toList_eq]
 by_cases e:x=y<;>simp [e]
abbrev Fd:=TypeId×Nat×Bool
def Gk(f:Field):Fd:=(f.type,f.offset,f.name== "_")
def Ix(d:Nat)(xs ys:Array Value):List Fd->Sem Bool
 |[]=>pure true
 |f::fs=>
  if f.2.2=false then do
   let a<-part f.1 xs f.2.1
   let b<-part f.1 ys f.2.1
   let r<-Op.equalIn d f.1 a b
   if(!r)=true then pure false else Ix d xs ys fs
  else Ix d xs ys fs
def EU(d:Nat)(xs ys:Array Value): ∀fs:List Field,Op.eqFields d xs ys fs=Ix d xs ys (fs.map Gk)
 |[]=>rfl
 |f::fs=>by
  unfold Op.eqFields Ix
  rw [EU d xs ys fs]
  by_cases h:f.name= "_"
  ·have e:((Gk f).2.2=false)=False:=by simp [Gk,h]
   simp only [pn,e,iB]
   rw [bo (by simpa using h)]
  ·have e:((Gk f).2.2=false)=True:=by simp [Gk,h]
   simp only [pn,e,fP]
   rw [bD (by simpa using h)]
   rfl
def Fi(P:Program){α:Type}(r:Rp α)(n:Nat)(fs:List Fd)(c:α->α->Bool):Prop:=
 ∀(S:SH) (cs ds:List Value) (x y:α) (d:Nat) (w:World),r.rc S cs x->r.rc S ds y->(Ix (d+n) cs.toArray ds.toArray fs).run P w= .ok (c x y) w
def Fi.nil:Fi P r n [] (fun _ _=>true):=fun _ _ _ _ _ _ _ _ _=>rfl
def p9(ti:TI P t sz bytes agg z)(hsz:q.sz=sz)(hag:q.agg=agg)(X:mf r off q get){cs:List Value}{x:α}(I:r.rc S cs x)(w:World):
  (part t cs.toArray off).run P w= .ok (q.val ((cs.drop off).take q.sz)) w:=by
 have h:=X S cs x I
 have hl:=q.len h
 subst hsz hag
 unfold part
 by_cases ha:q.agg=true
 ·have e1:=ti.isAgg w
  simp only [sP,e1,ha,tS,fP,ti.sizeOf,Sem.run_pure]
  unfold Rp.val
  rw [bD ha]
  congr 2
  apply Array.ext'
  simp
 ·rw [wp]at ha
  have e1:=ti.isAgg w
  have hs1:=q.sc ha
  simp only [sP,e1,ha,tS,kP,iB]
  rw [hs1]at hl ⊢
  obtain⟨v,hv⟩:=List.length_eq_one_iff.1 hl
  have hc:cs[off]? =some v:=by
   have:((cs.drop off).take 1)[0]? =some v:=by rw [hv];rfl
   rw [wr (by omega),tW]at this
   simpa using this
  unfold Rp.val
  rw [hv,ha]
  simp [hc]
def Fi.cons [DecidableEq β]{t:Nat}{fs:List Fd}{c:α->α->Bool}(ti:TI P t sz bytes agg z)(hsz:q.sz=sz)(hag:q.agg=agg)(X:mf r off q get)(he:lH P t q n)(hr:Fi P r n fs c):
  Fi P r n ((t,off,false)::fs) (fun x y=>decide (get x=get y)&&c x y):=fun S cs ds x y d w I hy=>by
 have Y:=p9 ti hsz hag X I w
 have J:=p9 ti hsz hag X hy w
 have Z:=he S _ _ _ _ d w (X S cs x I) (X S ds y hy)
 unfold Ix
 simp only [fP,sP,Y,J,Z,tS]
 by_cases e:get x=get y
 ·simp only [e,decide_true,nC,kP,iB,xq]
  exact hr S cs ds x y d w I hy
 ·simp [e]
def AK [DecidableEq α]{t:Nat}{fs:List Fd}{c:α->α->Bool}(D:(P.underlying t).map (fun d=>match d with| .struct l=>(true,l.toList.map Gk)|_=>(false,[]))=some (true,fs))(hp:P.stoodInHeld t=false)(ha:r.agg=true)(hr:Fi P r n fs c)(hc: ∀x y,c x y=decide (x=y)):lH P t r (n+1):=fun S cs ds x y d w I hy=>by
 obtain⟨l,Y,J⟩: ∃l,P.underlying t=some (.struct l)/\l.toList.map Gk=fs:=by
  cases hu:P.underlying t with
  |none=>rw [hu]at D;cases D
  |some d=>
   rw [hu]at D
   cases d<;>simp at D
   exact⟨_,rfl,D⟩
 have hfo:P.fieldsOf t=l:=by unfold Program.fieldsOf;rw [Y]
 have:=run_equalIn_struct (P:=P) w (d+n) t cs.toArray ds.toArray (by rw [hfo];exact Y) hp
 rw [p5 ha,p5 ha,show d+(n+1)=d+n+1 from rfl,this,hfo,EU,J,hr S cs ds x y d w I hy,hc]
def kY [DecidableEq α](h:lH P t r n)(m:Nat):lH P t r (m+n):=fun S cs ds x y d w I hy=>by
 have:=h S cs ds x y (d+m) w I hy
 rwa [Nat.add_assoc]at this
def Lp.of [DecidableEq α](T:P.eqGuardType P.depth t=false)(h:lH P t r 20):Lp P t r:=⟨T,fun S cs ds x y d w I hy=>h S cs ds x y d w I hy⟩

def KO{l:List α}{e:α}(h:xs.drop i=e::l):decide ((i:Int)<(xs.length:Int))=true:=by
 have:i<xs.length:=by
  rcases ll i xs.length with h' |h'
  ·exact h'
  ·rw [Ct h']at h;cases h
 simp;omega
def NP(h:xs.drop i=[]):decide ((i:Int)<(xs.length:Int))=false:=by
 have:=Bi.1 h
 simp;omega
def dC{l:List α}{e:α}(h:xs.drop i=e::l):xs.drop (i+1)=l:=by
 rw [<-pX,h];rfl
def fz{l:List α}{e:α}(h:xs.drop i=e::l):cQ xs (i:Int)=some e:=by
 rw [cw]
 have:=tW (xs:=xs) (i:=i) (j:=0)
 rw [h]at this
 simpa using this.symm
def Hx{l:List α}{e:α}(h:xs.drop i=e::l)(hN:xs.length<=maxLen):i<9223372036854775807:=by
 have:=of_decide_eq_true (KO h)
 simp only [maxLen]at hN
 omega
def Ql{k:Nat}(h:N-i=k+1):decide ((i:Int)<(N:Int))=true:=by simp;omega
def Qm(h:N-i=0):decide ((i:Int)<(N:Int))=false:=by simp;omega
def LV{k:Nat}(h:N-i=k+1):N-(i+1)=k:=by omega
def LW{k:Nat}(h:N-i=k+1)(hN:N<=9223372036854775807):i<9223372036854775807:=by omega
def Qo(h:n<=maxLen):n<=9223372036854775807:=by simp only [maxLen]at h;omega
variable{ix:Operand}{mm:Bool}{zs:List α}
section
variable{e:Exit}
section
variable{ty:TypeId}
def wP{one:Operand}{xt yt:TypeId}(hi:i<9223372036854775807)(I:aE E.N G x (H (rI .i64) (i:Int)))(Y:aE E.N G one (H (rI .i64) 1)):
  bR E O G ⟨dst,.binOp .add xt x one yt,ty,pos,after,g⟩ (H (rI .i64) ((i+1:Nat):Int)):=by
 have e:IntKind.i64.wrap ((i:Int)+1)=((i+1:Nat):Int):=by
  rw [IntKind.wrap_i64];omega
 have:=lr (E:=E) (O:=O) (dst:=dst) (ty:=ty) (pos:=pos) (after:=after) (g:=g) (xt:=xt) (yt:=yt) I Y
 rwa [e]at this
end
def fR(hm:jJ mm r hg l cap xs∈O)(h:xs.length<=maxLen->CG E Q c O G):CG E Q c O G:=fun a w S st=>by
 refine h ?_ a w S st
 obtain⟨cells,Y,_⟩:=(st.own.mem _ hm).1
 cases l with
 |none=>have:=Y.1;omega
 |some b=>obtain⟨cur,_,g2,g3,_⟩:=Y;exact xo g2 g3
def St.dataAt{k:Nat}(h:St E O G a w S)(hk:bJ G k=some (tO r l cap xs)):St E O ((k,H (gy r) xs)::G) a w S:=h.cons (h.facts.at_ k _ hk).2
def o7(k:Nat)(hk:bJ G k=some (tO r l cap xs))(h:AT E Q e O ((k,H (gy r) xs)::G)):AT E Q e O G:=fun a w S st=>h a w S (st.dataAt hk)
def jf(l:Option Nat)(off:Nat):Value:=
 match l with
 |none=> .pointer none
 |some b=>ax b off
def pA(h:za mm r hg l cap xs w S){e:α}(hi:xs[i]? =some e):
  ∃b cur,l=some b/\w.heap[b]? =some (.cells cur hg (0,0))/\xs.length<=cap/\cur.size=cap*r.sz/\r.rc S ((cur.toList.drop (i*r.sz)).take r.sz) e:=by
 obtain⟨cells,Y,J,_⟩:=h
 have hlt:=(qf.1 hi).1
 cases l with
 |none=>have:=Y.1;omega
 |some b=>
  obtain⟨cur,g1,g2,g3,g4,g5⟩:=Y
  refine⟨b,cur,rfl,g1,g2,g4,?_⟩
  have Z:=s0 J hi
  rw [<-g5,zj,vt]at Z
  have h4:i*r.sz+r.sz<=xs.length*r.sz:=by
   rw [<-Nat.succ_mul];exact wq _ hlt
  rwa [u3 (by omega)]at Z
def iL{i:Int}{e:α}(h:cQ xs i=some e):0<=i/\xs[i.toNat]? =some e:=by
 unfold cQ at h
 split at h
 ·exact⟨by assumption,h⟩
 ·cases h
section
variable{ty:TypeId}
def bW{e:TypeId}{i:Int}(D:E.P.underlying t=some (.slice e))(ti:TI E.P e sz bytes agg z)(hm:jJ mm r U l cap xs∈O)(I:aE E.N G x (tV (aK l cap n)))(hi:aE E.N G ix (H (rI k) i))(hy:cQ xs i=some y)(hn:n=xs.length:=by rfl):
  bR E O G ⟨dst,.indexAddr t x ix,ty,pos,after,g⟩ (tV (jf l (i.toNat*sz+0))):=
 .of_pure fun a w S _ ho X=>by
  subst hn
  have Y:a.eval x=aK l cap xs.length:=I S a X
  have Z:a.eval ix= .int k i:=eZ.1 (hi S a X)
  obtain⟨h0,hy'⟩:=iL hy
  obtain⟨b,cur,rfl,_⟩:=pA (ho.mem _ hm).1 hy'
  have hlt:i.toNat<xs.length:=(qf.1 hy').1
  refine⟨_,?_,rfl⟩
  have hc:0<=i/\i<(xs.length:Int):=⟨h0,by omega⟩
  simp [execOp,Y,Z,aK,Instr.indexAt,asIntOf,jD D,hc,ti.sizeOf,iA,jf,ax]
def dd{foff:Nat}{i:Int}{p:Operand}(ti:TI E.P hg sz bytes agg z)(hsz:q.sz=sz)(hag:q.agg=agg)(hget:mf r foff q get)(hoff:Nat.ble (foff+q.sz) r.sz=true)(hm:jJ mm r U l cap xs∈O)(hy:cQ xs i=some y)(hp:aE E.N G p (tV (jf l (i.toNat*r.sz+foff)))):bR E O G ⟨dst,.load hg p,ty,pos,after,g⟩ (H q (get y)):=
 .of_pure fun a w S _ ho X=>by
  have Y:a.eval p=jf l (i.toNat*r.sz+foff):=hp S a X
  obtain⟨h0,hy'⟩:=iL hy
  obtain⟨b,cur,rfl,V,_,_,h6⟩:=pA (ho.mem _ hm).1 hy'
  have hoff' :=po hoff
  have h7:=hget S _ _ h6
  rw [zj,vt,pX,u3 (by omega)]at h7
  refine⟨_,?_,_,rfl,h7⟩
  simp [execOp,Y,jf,ax,Instr.loadAt,Instr.sureAddr,i9 ti V hsz hag h7]
def Bt{o:Nat}{p:Operand}(X:cG E.P hg i=some (off,sz))(h0:Nat.beq sz 0=false)(hm:jJ mm r U l cap xs∈O)(hy:cQ xs j=some y)(hp:aE E.N G p (tV (jf l o))):
  bR E O G ⟨dst,.fieldAddr hg p i,ty,pos,after,g⟩ (tV (jf l (o+off))):=
 .of_pure fun a w S _ ho hF=>by
  have Y:a.eval p=jf l o:=hp S a hF
  obtain⟨_,hy'⟩:=iL hy
  obtain⟨b,cur,rfl,_⟩:=pA (ho.mem _ hm).1 hy'
  obtain⟨fs,f,e1,e2,e3,e4⟩:=xH X
  have h0' :sz≠0:=fun e=>by subst e;simp at h0
  refine⟨_,?_,rfl⟩
  simp [execOp,Y,jf,ax,Instr.fieldAt,jD e1,e2,Instr.sureAddr,fieldPlace,e4,h0',e3,iA]
end
def wH{α:Type}{r:Rp α}{S:SH}{y:α}{c:List Value}(hc:r.rc S c y): ∀{xs:List α} {i:Nat} {cs:List Value},qK r S cs xs->i<xs.length->qK r S (cs.take (i*r.sz)++c++cs.drop (i*r.sz+r.sz)) (xs.set i y)
 |[],_,_,_,h=>by simp at h
 |x::xs,0,cs,⟨a,b,e,Y,J⟩,_=>by
  have hl:=r.len Y
  refine⟨c,b,?_,hc,J⟩
  rw [e,<-hl];simp
 |x::xs,i+1,cs,⟨a,b,e,Y,J⟩,h=>by
  have hl:=r.len Y
  have ih:=wH hc J (i:=i) (by simpa using h)
  refine⟨a,_,?_,Y,ih⟩
  have e1:(i+1)*r.sz=a.length+i*r.sz:=by rw [hl,tN];omega
  rw [e,e1,List.take_length_add_append,Nat.add_assoc,List.drop_length_add_append]
  simp
def ke{set:α->β->α}{foff:Nat}{v:β}{i:Int}{p:Operand}{ty:TypeId}(ti:TI E.P hg sz bytes agg z)(hsz:q.sz=sz)(hset:g9 r foff q set)(hoff:Nat.ble (foff+q.sz) r.sz=true)(hy:cQ xs i=some y)(hz:xs.set i.toNat (set y v)=zs)(hp:aE E.N G p (tV (jf l (i.toNat*r.sz+foff))))(I:aE E.N G x (H q v))(k:RG E ops Q rest (fi r U l cap zs::O) G):
  RG E ops Q (⟨none,.store hg p x,ty,pos,after,none⟩::rest) (fi r U l cap xs::O) G:= .of rfl fun a w S st=>by
 subst hz
 have Y:a.eval p=jf l (i.toNat*r.sz+foff):=hp S a st.facts
 obtain⟨ds,J,Z⟩:=I S a st.facts
 obtain⟨h0,hy'⟩:=iL hy
 have hlt:i.toNat<xs.length:=(qf.1 hy').1
 obtain⟨cells,hraw,hrc,hno⟩:=st.own.1.1
 obtain⟨b,cur,rfl,V,hle,hcs,h6⟩:=pA st.own.1.1 hy'
 obtain⟨cur',hb',hle',hmax,hcs',hct⟩:=hraw
 have hcc:cur' =cur:=by rw [V]at hb';injection hb' with e;injection e with e1;exact e1.symm
 subst hcc
 have hno' :S b=none:=hno b rfl
 have hoff' :=po hoff
 have hl3:=q.len Z
 have hmul:i.toNat*r.sz+r.sz<=xs.length*r.sz:=by rw [<-Nat.succ_mul];exact wq _ hlt
 have hmul2:xs.length*r.sz<=cur'.size:=by rw [hcs];exact wq _ hle
 obtain⟨w',hr,e1,e2,e3,e4,e5,e6⟩:=iG ti hsz Z V (off:=i.toNat*r.sz+foff) (by omega)
 have hrun:(execOp a.eval ⟨none,.store hg p x,ty,pos,after,none⟩).run E.P w= .ok .skip w' :=by
  simp [execOp,Y,J,Instr.storeAt,jf,ax,Instr.sureAddr,hr]
 refine⟨fun c h=>(by cases h),?_⟩
 rw [hrun]
 have hnew:=hset S _ _ _ _ h6 Z
 have hrc' :=wH hnew hrc hlt
 have hcl:=mi hrc
 have hcells:(cur'.toList.take (i.toNat*r.sz+foff)++ds++cur'.toList.drop (i.toNat*r.sz+foff+q.sz)).take (xs.length*r.sz)=
   cells.take (i.toNat*r.sz)++(((cur'.toList.drop (i.toNat*r.sz)).take r.sz).take foff++ds++((cur'.toList.drop (i.toNat*r.sz)).take r.sz).drop (foff+q.sz))++cells.drop (i.toNat*r.sz+r.sz):=by
  subst hct
  apply BG
  intro j
  simp only [List.getElem?_take,List.getElem?_append,tW,zm,Bc,jE,yq]
  rcases ll j (xs.length*r.sz)with hj|hj
  ·simp only [hj,fP]
   rcases ll j (i.toNat*r.sz)with hj1|hj1
   ·rw [bD (by omega),bD (by omega),bD (by omega),bD (by omega),bD (by omega),bD (by omega)]
   ·rcases ll j (i.toNat*r.sz+foff)with hj2|hj2
    ·rw [bD (by omega),bD (by omega),bD (by omega),bD (by omega),bo (by omega),bD (by omega),bD (by omega),bD (by omega),bD (by omega)]
     congr 1;omega
    ·rcases ll j (i.toNat*r.sz+foff+q.sz)with hj3|hj3
     ·rw [bD (by omega),bo (by omega),bD (by omega),bo (by omega),bD (by omega),bo (by omega)]
      congr 1;omega
     ·rw [bo (by omega)]
      rcases ll j (i.toNat*r.sz+r.sz)with hj4|hj4
      ·rw [bD (by omega),bo (by omega),bo (by omega),bD (by omega)]
       congr 1;omega
      ·rw [bo (by omega),bD (by omega)]
       congr 1;omega
  ·rw [bo (by omega),bo (by omega),bo (by omega)]
 obtain⟨g1,g2,g3⟩:=nt (O:=O) st.sat (fi r U (some b) cap xs) (fi r U (some b) cap (xs.set i.toNat (set y v))) st.own (fun k=>⟨fun h=>(pZ h).symm,fun h=>by rw [h];rfl⟩) (fun k=>⟨fun h=>(pZ h).symm,fun h=>by rw [h];rfl⟩) ⟨e1,e2,e3,e4.1,e4.2⟩ e6
  ⟨_,⟨_,e5,by rw [BD];exact hle,hmax,by simp only [BF,jE,zm,Bc,yq];omega,by rw [BD];exact hcells⟩,hrc',fun k hk=>by rw [<-pZ hk];exact hno'⟩ hno'
 exact k _ _ S ⟨st.ext.step g1 (fun c hc=>st.own.1.2 c (by rw [hc];rfl)),g2,g3,st.facts⟩

def mJ(sz:Nat)(l:Option Nat)(cap lo n:Nat):Value:=
 match l with
 |none=> .slice none 0 0
 |some b=> .slice (some ⟨b,if cap=lo then 0 else lo*sz,none⟩) n (cap-lo)
section
variable{ty:TypeId}
def BS(h:za mm r U l cap xs w S): ∃ad c,aK l cap xs.length= .slice ad xs.length c/\xs.length<=c/\ad=l.map (fun b=>⟨b,0,none⟩)/\(l=none->c=0/\xs=[])/\(l≠none->c=cap):=by
 obtain⟨cells,Y,_⟩:=h
 cases l with
 |none=>
  have I:xs=[]:=tX Y.1
  subst I
  exact⟨none,0,rfl,iQ _,rfl,fun _=>⟨rfl,rfl⟩,fun h=>absurd rfl h⟩
 |some b=>
  obtain⟨cur,_,g2,_⟩:=Y
  exact⟨_,cap,rfl,g2,rfl,fun h=>(by cases h),fun _=>rfl⟩
def nu{hi:Operand}(D:E.P.underlying t=some (.slice hg))(ti:TI E.P hg sz bytes agg z)(hsz:r.sz=sz)(hm:jJ mm r U l cap xs∈O)(I:aE E.N G x (tV (aK l cap n)))(hhi:aE E.N G hi (H (rI k') j))(h:db xs 0 j=some ys)(hn:n=xs.length:=by rfl):bR E O G ⟨dst,.slice t x none (some hi) none,ty,pos,after,g⟩ (tV (aK l cap ys.length)):=
 .of_pure fun a w S _ ho X=>by
  subst hsz
  subst hn
  have Y:a.eval x=aK l cap xs.length:=I S a X
  obtain⟨ad,c,J,Z,h4,h5,h5'⟩:=BS (ho.mem _ hm).1
  have h6:=eZ.1 (hhi S a X)
  obtain⟨lo,m,hl,rfl,h7,h8,rfl⟩:=fa h
  have hl0:lo=0:=by omega
  subst hl0
  have hlen:((xs.take m).drop 0).length=m:=by simp;omega
  refine⟨_,?_,rfl⟩
  rw [J]at Y
  have hr:(execOp a.eval ⟨dst,.slice t x none (some hi) none,ty,pos,after,g⟩).run E.P w= .ok (.value (.slice ad m c)) w:=by
   simp [execOp,Instr.sliceAt,Y,h6,Instr.slice,jD D,Instr.sliceBounds,iu (k:=k') (n:=(m:Int)) (y:=c) (by omega) (by omega),ti.sizeOf]
   cases ad<;>simp [Addr.add]
  rw [hr,hlen,h4]
  cases l with
  |none=>
   obtain⟨rfl,rfl⟩:=h5 rfl
   have:m=0:=by simpa using h8
   subst this;rfl
  |some b=>rw [h5' (by simp)];rfl
def pB{lo:Operand}{i:Int}(D:E.P.underlying t=some (.slice hg))(ti:TI E.P hg sz bytes agg z)(hsz:r.sz=sz)(hm:jJ mm r U l cap xs∈O)(I:aE E.N G x (tV (aK l cap n)))(hlo:aE E.N G lo (H (rI k) i))(h:db xs i (xs.length:Int)=some ys)(hn:n=xs.length:=by rfl):bR E O G ⟨dst,.slice t x (some lo) none none,ty,pos,after,g⟩ (tV (mJ sz l cap i.toNat ys.length)):=
 .of_pure fun a w S _ ho X=>by
  subst hsz
  subst hn
  have Y:a.eval x=aK l cap xs.length:=I S a X
  obtain⟨ad,c,J,Z,h4,h5,h5'⟩:=BS (ho.mem _ hm).1
  have h6:=eZ.1 (hlo S a X)
  obtain⟨lo',m,rfl,hm',h7,h8,rfl⟩:=fa h
  have hm2:m=xs.length:=by omega
  subst hm2
  have hlen:((xs.take xs.length).drop lo').length=xs.length-lo' :=by simp
  refine⟨_,?_,rfl⟩
  rw [J]at Y
  have hr:(execOp a.eval ⟨dst,.slice t x (some lo) none none,ty,pos,after,g⟩).run E.P w= .ok (.value (.slice (if c=lo' then ad else ad.map (·.add (lo' *r.sz))) (xs.length-lo') (c-lo'))) w:=by
   simp [execOp,Instr.sliceAt,Y,h6,Instr.slice,jD D,Instr.sliceBounds,iu (k:=k) (n:=(lo' :Int)) (y:=xs.length) (by omega) (by omega),ti.sizeOf]
  rw [hr,hlen,h4]
  cases l with
  |none=>
   obtain⟨rfl,rfl⟩:=h5 rfl
   have:lo' =0:=by simpa using h7
   subst this;rfl
  |some b=>
   rw [h5' (by simp)]
   unfold mJ
   simp only [tR,yn,iA,pL]
   split<;>rfl
def zN{i:Int}(h:db xs lo hi=some ys)(hy:cQ ys i=some y):cQ xs (lo+i)=some y/\0<=lo/\0<=i:=by
 obtain⟨l,m,rfl,rfl,Y,J,rfl⟩:=fa h
 obtain⟨h0,Z⟩:=iL hy
 refine⟨?_,by omega,h0⟩
 obtain⟨j,rfl⟩: ∃j:Nat,i=j:=⟨i.toNat,by omega⟩
 rw [show((l:Int)+(j:Int))=((l+j:Nat):Int)from by omega,cw]
 rw [tW,tR]at Z
 have hlt:l+j<m:=by
  have:=(qf.1 Z).1
  simp at this;omega
 rwa [wr hlt]at Z
def Bs{e:TypeId}{i:Int}(D:E.P.underlying t=some (.slice e))(ti:TI E.P e sz bytes agg z)(hsz:r.sz=sz)(hm:jJ mm r U l cap xs∈O)(hs:db xs lo hi=some ys)(I:aE E.N G x (tV (mJ sz l cap lo.toNat ys.length)))(hi' :aE E.N G ix (H (rI k) i))(hy:cQ ys i=some y):
  bR E O G ⟨dst,.indexAddr t x ix,ty,pos,after,g⟩ (tV (jf l ((lo+i).toNat*sz+0))):=
 .of_pure fun a w S _ ho X=>by
  subst hsz
  have Y:a.eval x=mJ r.sz l cap lo.toNat ys.length:=I S a X
  have Z:a.eval ix= .int k i:=eZ.1 (hi' S a X)
  obtain⟨hxi,hl0,hi0⟩:=zN hs hy
  obtain⟨_,hx'⟩:=iL hxi
  obtain⟨b,cur,rfl,_,hle,_⟩:=pA (ho.mem _ hm).1 hx'
  have hlt:i.toNat<ys.length:=(qf.1 (iL hy).2).1
  have hlt2:(lo+i).toNat<xs.length:=(qf.1 hx').1
  have hne: ¬(cap=lo.toNat):=by omega
  refine⟨_,?_,rfl⟩
  have hc:0<=i/\i<(ys.length:Int):=⟨hi0,by omega⟩
  have e1:(lo+i).toNat=lo.toNat+i.toNat:=by omega
  simp [execOp,Y,Z,mJ,hne,Instr.indexAt,asIntOf,jD D,hc,ti.sizeOf,iA,jf,ax,e1,tN]
def LT{e:TypeId}(D:E.P.underlying t=some (.slice e))(hm:jJ mm r U l cap xs∈O)(hs:db xs lo hi=some ys)(I:aE E.N G x (tV (mJ sz l cap lo.toNat ys.length))):
  bR E O G ⟨dst,.call ⟨.builtin .len,#[x],#[t]⟩,ty,pos,after,g⟩ (H (rI .i64) (ys.length:Int)):=
 .of_pure fun a w S _ ho X=>by
  have Y:a.eval x=mJ sz l cap lo.toNat ys.length:=I S a X
  obtain⟨ad,c,Z⟩: ∃ad c,mJ sz l cap lo.toNat ys.length= .slice ad ys.length c:=by
   cases l with
   |none=>
    obtain⟨_,J,_⟩:=(ho.mem _ hm).1
    have hx0:xs=[]:=tX J.1
    subst hx0
    obtain⟨l',m,_,_,_,h8,rfl⟩:=fa hs
    exact⟨none,0,by simp [mJ]⟩
   |some b=>exact⟨_,_,rfl⟩
  refine⟨.int .i64 ys.length,?_,eZ.2 rfl⟩
  simp [execOp,resolve,invoke,builtin,Builtin.len_,jD D,Y,Z,goInt]
end
def Nk(h:db xs 0 j=some ys)(k:za false r U l cap xs w S):za false r U l cap ys w S:=by
 obtain⟨lo,m,hl,rfl,h7,h8,rfl⟩:=fa h
 have hl0:lo=0:=by omega
 subst hl0
 obtain⟨cells,Y,J,Z⟩:=k
 have hlen:((xs.take m).drop 0).length=m:=by simp;omega
 have h4:qK r S (cells.take (m*r.sz)) (xs.take m):=by
  have e:xs=xs.take m++xs.drop m:=(r0 _ _).symm
  rw [e]at J
  have:=(oP J).1
  rwa [show(xs.take m).length=m from by simp;omega]at this
 refine⟨cells.take (m*r.sz),?_,by simpa using h4,fun b V=>Z b V⟩
 rw [hlen]
 cases l with
 |none=>
  obtain⟨g1,g2⟩:=Y
  exact⟨by omega,by rw [g2];simp⟩
 |some b=>
  obtain⟨cur,g1,g2,g3,g4,g5⟩:=Y
  exact⟨cur,g1,by omega,g3,g4,by rw [<-g5,vt,u3 (wq _ h8)]⟩
def St.cut(h:db xs 0 j=some ys)(st:St E (fi r U l cap xs::O) G a w S):St E (fi r U l cap ys::O) G a w S:=
 st.own_map fun ho=>⟨⟨Nk h ho.1.1,ho.1.2⟩,ho.2.1,ho.2.2⟩
def yg(h:db xs 0 j=some ys)(k:RG E ops Q rest (fi r U l cap ys::O) G):RG E ops Q rest (fi r U l cap xs::O) G:=fun a w S st=>k a w S (st.cut h)
end

variable{x0 x1 x2 x3 x4 x5 x6:OE}
section
variable{e:Exit}
def tq{O:List OE}(h:cZ base B w S (x0::x1::x2::x3::x4::x5::O)):cZ base B w S (x5::x0::x1::x2::x3::x4::O):=
 (sJ h qU (fun f X=>by simp only [fT]at X ⊢;rcases X with h|h|h|h|h|h<;>simp [h])).swap
def u0(h:RG E ops Q rest (x5::x0::x1::x2::x3::x4::O) G):RG E ops Q rest (x0::x1::x2::x3::x4::x5::O) G:=fun a w S st=>h a w S (st.own_map tq)
def ki(h:AT E Q e (x5::x0::x1::x2::x3::x4::O) G):AT E Q e (x0::x1::x2::x3::x4::x5::O) G:=fun a w S st=>h a w S (st.own_map tq)
def yi(h:LG E Q c (x5::x0::x1::x2::x3::x4::O) G):LG E Q c (x0::x1::x2::x3::x4::x5::O) G:=fun a w S st=>h a w S (st.own_map tq)
def tp{O:List OE}(h:cZ base B w S (x0::x1::x2::x3::x4::x5::x6::O)):cZ base B w S (x6::x0::x1::x2::x3::x4::x5::O):=
 (sJ h tq (fun f X=>by simp only [fT]at X ⊢;rcases X with h|h|h|h|h|h|h<;>simp [h])).swap
def Ck(h:RG E ops Q rest (x6::x0::x1::x2::x3::x4::x5::O) G):RG E ops Q rest (x0::x1::x2::x3::x4::x5::x6::O) G:=fun a w S st=>h a w S (st.own_map tp)
def Cq(h:AT E Q e (x6::x0::x1::x2::x3::x4::x5::O) G):AT E Q e (x0::x1::x2::x3::x4::x5::x6::O) G:=fun a w S st=>h a w S (st.own_map tp)
def AY{x7:OE}{O:List OE}(h:cZ base B w S (x0::x1::x2::x3::x4::x5::x6::x7::O)):cZ base B w S (x7::x0::x1::x2::x3::x4::x5::x6::O):=
 (sJ h tp (fun f X=>by simp only [fT]at X ⊢;rcases X with h|h|h|h|h|h|h|h<;>simp [h])).swap
def IP{x7:OE}(h:RG E ops Q rest (x7::x0::x1::x2::x3::x4::x5::x6::O) G):RG E ops Q rest (x0::x1::x2::x3::x4::x5::x6::x7::O) G:=fun a w S st=>h a w S (st.own_map AY)
end

def dU(h:xs.set i y=zs):zs.length=xs.length:=by rw [<-h,BD]
section
def gm(hl:m=n)(s:Nat)(hs:bJ G s=some (tV (aK l cap n)))(k:RG E ops Q rest O ((s,tV (aK l cap m))::G)):RG E ops Q rest O G:=by
 subst hl
 exact fun a w S st=>k a w S (st.cons (st.facts.at_ s _ hs))
end

def kW{s:Rp γ}{o1 o2:Nat}{g1:α->β}{g2:β->γ}(Y:mf r o1 q g1)(J:mf q o2 s g2)(V:Nat.ble (o2+s.sz) q.sz=true:=by rfl):mf r (o1+o2) s (fun x=>g2 (g1 x)):=fun S cs x h=>by
 have Z:=J S _ _ (Y S cs x h)
 have hb' :=po V
 rwa [zj,vt,pX,u3 (by omega)]at Z
def xD{s:Rp γ}{o1 o2:Nat}{g1:α->β}{u1:α->β->α}{u2:β->γ->β}(Y:mf r o1 q g1)(k1:g9 r o1 q u1)(k2:g9 q o2 s u2)(V:Nat.ble (o2+s.sz) q.sz=true:=by rfl)(hc:Nat.ble (o1+q.sz) r.sz=true:=by rfl):
  g9 r (o1+o2) s (fun x y=>u1 x (u2 (g1 x) y)):=fun S cs x ds y h hy=>by
 have hb' :=po V
 have hc' :=po hc
 have hl:=r.len h
 have Z:=k1 S cs x _ _ h (k2 S _ _ ds y (Y S cs x h) hy)
 have e:cs.take (o1+o2)++ds++cs.drop (o1+o2+s.sz)=cs.take o1++(((cs.drop o1).take q.sz).take o2++ds++((cs.drop o1).take q.sz).drop (o2+s.sz))++cs.drop (o1+q.sz):=by
  rw [vt,u3 (by omega),zj,pX,List.take_add,show o1+(o2+s.sz)=o1+o2+s.sz from by omega]
  simp only [jr]
  congr 3
  have e2:cs.drop (o1+q.sz)=(cs.drop (o1+o2+s.sz)).drop (q.sz-(o2+s.sz)):=by rw [pX];congr 1;omega
  rw [e2,r0]
 rw [e];exact Z

def fg(P:Program)(f:FuncId)(ts:List Ty)(O1:List OE){ι:Type}(t:ι->Ty)(O2:ι->List OE):Prop:=
 ∀w S vs,jo w S->tM S ts vs->cZ 0 oT w S O1->Calls P f vs.toArray w fun en w' => ∃i v S',en= .returned v/\(t i).p S' v/\gH (fun k=> ∃f∈O1,f.fp k) w S w' S' /\jo w' S' /\cZ 0 oT w' S' (O2 i)/\ ∀k,(∃f∈O2 i,f.fp k)->(∃f∈O1,f.fp k)\/w.heap.size<=k
def MX(E:En)(O1:List OE){ι:Type}(t:ι->Ty)(O2:ι->List OE):Ending->World->Prop:=fun en w' =>
 ∃i v S',en= .returned v/\(t i).p S' v/\gH E.B E.w0 E.S0 w' S' /\jo w' S' /\cZ 0 oT w' S' (O2 i)/\ ∀k,(∃f∈O2 i,f.fp k)->(∃f∈O1,f.fp k)\/E.w0.heap.size<=k
def wY(O1:List OE):Nat->Prop:=fun k=> ∃f∈O1,f.fp k
def fg.of{t:ι->Ty}(X:P.funcs[f]? =some fn)(V:fn.body=some c)(hN:fn.ntmps=N)(hn:Nat.ble ts.length N=true)(h: ∀w0 S0,CG ⟨P,⟨N,[]⟩,wY O1,w0,S0,none⟩ (bodyPost P fn (MX ⟨P,⟨N,[]⟩,wY O1,w0,S0,none⟩ O1 t O2)) c O1 (sy 0 ts)):fg P f ts O1 t O2:=by
 subst hN
 intro w S vs hs hv ho
 exact ma.1 (callsIn_of_wp (F:=fw none) (n:=0) X V trivial (h w S _ w S ⟨gH.refl _ _ _,hs,mB ho fun f X k hk=> .inr ⟨f,X,hk⟩,oX hv _ (po hn)⟩))
def Hw{t:ι->Ty}{v:Value}(st:St E O G a w S)(hB:E.B=wY O1)(i:ι)(hO:O=O2 i)(hv:(t i).p S v):MX E O1 t O2 (.returned v) w:=by
 subst hO
 refine⟨i,v,S,rfl,hv,st.ext,st.sat,st.own.weak,fun k ⟨f,X,hk⟩=>?_⟩
 rcases(cZ.mem st.own f X).2 k hk with h|h
 ·exact .inr h
 ·rw [hB]at h;exact .inl h
section
variable{t:ι->Ty}
def mY{k:Nat}{u:Ty}(hr:fn.results= #[.tmp k])(i:ι)(hO:O=O2 i)(hk:bJ G k=some u)(hu: ∀S v,u.p S v->(t i).p S v):
  AT ⟨P,⟨N,[]⟩,wY O1,w0,S0,none⟩ (bodyPost P fn (MX ⟨P,⟨N,[]⟩,wY O1,w0,S0,none⟩ O1 t O2)) .ret O G:=fun _ _ S st=>
 ⟨st.facts.defers,_,m4 P fn k hr _ _,Hw st rfl i hO (hu S _ (st.facts.at_ k u hk))⟩
end
def xk: ∀{O1 O2:List OE},cZ base B w S O1->cZ base B w S O2->(∀e∈O1,∀f∈O2,e.apart f)->cZ base B w S (O1++O2)
 |[],_,_,h,_=>h
 |e::O1,O2,⟨Y,J,Z⟩,h,ha=>⟨Y,fun f X=>(pY.1 X).elim (J f) (ha e (lK ..) f),xk Z h fun g T f X=>ha g (mZ _ T) f X⟩
section
variable{ty:TypeId}
def St.turn{Or O2:List OE}(st:St E (O1++Or) G a w S)(I:gH (fun k=> ∃f∈O1,f.fp k) w S w' S')(hs:jo w' S')(ho:cZ 0 oT w' S' O2)(hn: ∀k,(∃f∈O2,f.fp k)->(∃f∈O1,f.fp k)\/w.heap.size<=k):St E (O2++Or) G a w' S' :=by
 obtain⟨Y,J,Z⟩:=mA st.own
 have hbl:=st.base_le
 refine⟨st.ext.step I (fun b ⟨f,X,V⟩=>(cZ.mem Y f X).2 b V),hs,xk (mB ho fun f X k hk=>?_) (J.ext I fun f X b V ⟨g,T,hgb⟩=>Z g T f X b hgb V) (fun e he f X b heb hfb=>?_),st.facts.mono I.keep⟩
 ·rcases hn k ⟨f,X,hk⟩with⟨g,T,hgk⟩|h
  ·exact(cZ.mem Y g T).2 k hgk
  ·exact .inl (xo hbl h)
 ·rcases hn b ⟨e,he,heb⟩with⟨g,T,hgb⟩|h
  ·exact Z g T f X b hgb hfb
  ·have:=f.here (cZ.mem J f X).1 b hfb
   omega
def uC{xs:List Operand}(O1 Or:List OE){t:ι->Ty}(hO:O=O1++Or)(hc:al E.P f=true)(hs:fg E.P f ts O1 t O2)(I:hG E.N G xs ts)(hd:Nat.blt d E.N.n=true)(k: ∀i,RG E ops Q rest (O2 i++Or) ((d,t i)::G)):
  RG E ops Q (⟨some d,.call ⟨.value (.func f),xs.toArray,ats⟩,ty,pos,after,none⟩::rest) O G:= .of rfl fun a w S st=>by
 subst hO
 have hr:(execOp a.eval ⟨some d,.call ⟨.value (.func f),xs.toArray,ats⟩,ty,pos,after,none⟩).run E.P w= .ok (.enter f (xs.map a.eval).toArray) w:=by
  simp [execOp,resolve,Act.eval,Deferred.ofValue,invoke,fj hc]
 refine⟨fun c h=>(by cases h),?_⟩
 rw [hr]
 refine(hs w S _ st.sat (I.tys st.facts) (mA st.own).1.weak).mono fun en w' ⟨i,v,S',he,hv,Y,J,Z,h4⟩=>⟨_,he,?_⟩;exact k i _ _ S' ((st.turn Y J Z h4).put hd hv)
end

structure OI where
 h:Nat->Option Nat×Nat:=fun _=>(none,0)
 os:List (Option Nat×Nat):=[]
 fp:Nat->Prop:=oT
 v:Value:=undef
 ng:Nat->(Option Nat×Nat)×(Nat->Option Nat×Nat):=fun _=>((none,0),fun _=>(none,0))
def qg:OI:={}
def oi(l:Option Nat)(c:Nat):OI:={h:=fun _=>(l,c)}
def EffOK(E:En)(O:List OE)(need:jM)(o:Oper)(post:OI->List OE)(t:OI->Ty):Prop:=
 ∀a w S,jo w S->cZ E.base E.B w S O->cP E.N S a need->E.base<=w.heap.size->
  Ea E.P o a w (fun a' w' => ∃v S' x,a' =a.put o.dst v/\gH (wY O) w S w' S' /\jo w' S' /\cZ E.base E.B w' S' (post x)/\(t x).p S' v)
variable{post:OI->List OE}{t' :TypeId}
section
variable{ty:TypeId}
def Gv{y:Operand}{u:OI->Ty}(ti:TI E.P hg sz bytes agg z)(hsz:r.sz=sz)(hz:Nat.beq z.length sz=true)(h0:Nat.blt 0 sz=true)(h128:Nat.ble bytes 2048=true)(D:E.P.underlying t=some (.slice hg))(I:aE E.N G x (tV (aK l cap n)))(hy: ∀a w S,jo w S->cP E.N S a G-> ∃news,Src E.P r.sz t' (a.eval y) ys.length news w/\qK r S news ys)(happ:jp xs ys=some zs)(hu: ∀l' cap' w0 S,(jJ mm r hg l' cap' zs).p w0 S->(u (oi l' cap')).p S (aK l' cap' zs.length))(hn:n=xs.length):
  EffOK E (jJ mm r hg l cap xs::O) G ⟨some d,.call ⟨.builtin .append,#[x,y],#[t,t']⟩,ty,pos,after,g⟩ (fun i=>jJ mm r hg (i.h 0).1 (i.h 0).2 zs::O) u:=fun a w S hs ho X V=>by
 subst hn
 have Y:a.eval x=aK l cap xs.length:=I S a X
 obtain⟨news,J,Z⟩:=hy a w S hs X
 obtain⟨l',cap',w',S',hr,hext,hsat,hh,hnew⟩:=ug (ty:=ty) ti hsz hz h0 h128 D hs ho.1 V J Z happ
 have hrun:(execOp a.eval ⟨some d,.call ⟨.builtin .append,#[x,y],#[t,t']⟩,ty,pos,after,g⟩).run E.P w= .ok (.value (aK l' cap' zs.length)) w' :=by
  simp [execOp,resolve,invoke,builtin,Y,hr]
 refine⟨fun c h=>(by cases h),?_⟩
 rw [hrun]
 refine⟨_,S',oi l' cap',rfl,hext.more fun b V=>⟨_,lK ..,V⟩,hsat,⟨hh,fun f X b V hfb=>?_,ho.2.2.ext hext fun f X b V hbl=>ho.2.1 f X b hbl V⟩,hu l' cap' w' S' hh.1⟩
 rcases hnew b V with h|h
 ·exact ho.2.1 f X b h hfb
 ·have:=f.here (cZ.mem ho.2.2 f X).1 b hfb
  omega
def yS{y:Operand}(ti:TI E.P hg sz bytes agg z)(hsz:r.sz=sz)(hz:Nat.beq z.length sz=true)(h0:Nat.blt 0 sz=true)(h128:Nat.ble bytes 2048=true)(D:E.P.underlying t=some (.slice hg))(ht' :t' =t)(I:aE E.N G x (tO r l cap xs))(hy:aE E.N G y (H (gy r) ys))(happ:jp xs ys=some zs):
  EffOK E (gT r hg l cap xs::O) G ⟨some d,.call ⟨.builtin .append,#[x,y],#[t,t']⟩,ty,pos,after,g⟩ (fun i=>gT r hg (i.h 0).1 (i.h 0).2 zs::O) (fun i=>tO r (i.h 0).1 (i.h 0).2 zs):=by
 subst ht'
 exact Gv ti hsz hz h0 h128 D (wy I) (fun a w S hs X=>t7 D hs (hy S a X)) happ (fun _ _ _ _ h=>⟨rfl,pw h⟩) rfl
def Iz{xs:List Operand}{u:OI->Ty}(hc:al E.P f=true)(hs:gk E.P f ts mm r hg ys)(I:hG E.N G xs ts)(hu: ∀l cap w0 S,(jJ mm r hg l cap ys).p w0 S->(u (oi l cap)).p S (aK l cap ys.length)):
  EffOK E O G ⟨some d,.call ⟨.value (.func f),xs.toArray,ats⟩,ty,pos,after,g⟩ (fun i=>jJ mm r hg (i.h 0).1 (i.h 0).2 ys::O) u:=fun a w S hsat ho X V=>by
 have hr:(execOp a.eval ⟨some d,.call ⟨.value (.func f),xs.toArray,ats⟩,ty,pos,after,g⟩).run E.P w= .ok (.enter f (xs.map a.eval).toArray) w:=by
  simp [execOp,resolve,Act.eval,Deferred.ofValue,invoke,fj hc]
 refine⟨fun c h=>(by cases h),?_⟩
 rw [hr]
 exact(hs w S _ hsat (I.tys X)).mono fun e w' ⟨l,cap,S',he,Y,J,Z⟩=>⟨_,he,_,S',oi l cap,rfl,Y.more fun _ V=>V.elim,J,re ho Y Z.1 (fun b V=>(Z.2 b V).resolve_right id) V,hu l cap w' S' Z.1⟩
def cZ.turn{Or O2:List OE}(h:cZ base B w S (O1++Or))(hbl:base<=w.heap.size)(I:gH (wY O1) w S w' S')(ho:cZ 0 oT w' S' O2)(hn: ∀k,(∃f∈O2,f.fp k)->(∃f∈O1,f.fp k)\/w.heap.size<=k):cZ base B w' S' (O2++Or):=by
 obtain⟨Y,J,Z⟩:=mA h
 refine xk (mB ho fun f X k hk=>?_) (J.ext I fun f X b V ⟨g,T,hgb⟩=>Z g T f X b hgb V) (fun e he f X b heb hfb=>?_)
 ·rcases hn k ⟨f,X,hk⟩with⟨g,T,hgk⟩|h
  ·exact(cZ.mem Y g T).2 k hgk
  ·exact .inl (xo hbl h)
 ·rcases hn b ⟨e,he,heb⟩with⟨g,T,hgb⟩|h
  ·exact Z g T f X b hgb hfb
  ·have:=f.here (cZ.mem J f X).1 b hfb
   omega
def Iy{xs:List Operand}(O1 Or:List OE){t:OI->Ty}{O2:OI->List OE}(hO:O=O1++Or)(hc:al E.P f=true)(hs:fg E.P f ts O1 t O2)(I:hG E.N G xs ts)(hpost: ∀i,O2 i++Or=post i):
  EffOK E O G ⟨some d,.call ⟨.value (.func f),xs.toArray,ats⟩,ty,pos,after,g⟩ post t:=fun a w S hsat ho X V=>by
 subst hO
 obtain rfl:(fun i=>O2 i++Or)=post:=funext hpost
 have hr:(execOp a.eval ⟨some d,.call ⟨.value (.func f),xs.toArray,ats⟩,ty,pos,after,g⟩).run E.P w= .ok (.enter f (xs.map a.eval).toArray) w:=by
  simp [execOp,resolve,Act.eval,Deferred.ofValue,invoke,fj hc]
 refine⟨fun c h=>(by cases h),?_⟩
 rw [hr]
 exact(hs w S _ hsat (I.tys X) (mA ho).1.weak).mono fun en w' ⟨i,v,S',he,hv,Y,J,Z,h4⟩=>⟨_,he,v,S',i,rfl,Y.more fun b ⟨f,X,V⟩=>⟨f,BH _ X,V⟩,J,cZ.turn ho V Y Z h4,hv⟩
def GN{op:Op}{t:OI->Ty}(h:EffOK E O G ⟨some d,op,ty,pos,after,none⟩ post t)(hd:Nat.blt d E.N.n=true)(k: ∀x:OI,RG E ops Q rest (post x) ((d,t x)::G)):RG E ops Q (⟨some d,op,ty,pos,after,none⟩::rest) O G:= .of rfl fun a w S st=>
 mj (fun a' w' ⟨v,S',x,ha,I,hs,ho,hv⟩=>by
  subst ha
  exact k x _ _ S' ⟨st.ext.step I fun b ⟨f,X,V⟩=>(cZ.mem st.own f X).2 b V,hs,ho,(st.facts.mono I.keep).put hd hv⟩) (h a w S st.sat st.own st.facts st.base_le)
end

def Fo(σ:Nat->OI)(k:Nat)(x:OI):Nat->OI:=fun j=>bif Nat.beq j k then x else σ j
def Ji(σ:Nat->OI)(k:Nat)(x:OI):Fo σ k x k=x:=by simp [Fo]
def zI(σ:Nat->OI){k j:Nat}(x:OI)(h:j≠k):Fo σ k x j=σ j:=by
 have:Nat.beq j k=false:=by
  cases V:Nat.beq j k with
  |false=>rfl
  |true=>exact absurd (nD V) h
 simp [Fo,this]
structure NE where
 slot:Nat
 ty:(Nat->OI)->Ty
 src:Option Nat
def Rz(G:jM)(ts:List (OI->Ty))(n:NE):Prop:=
 match n.src with
 |some j=> ∀σ,(ts[j]?).map (fun f=>f (σ j))=some (n.ty σ)
 |none=> ∀σ,bJ G n.slot=some (n.ty σ)
def HH(G:jM)(ts:List (OI->Ty)):List NE->Prop
 |[]=>True
 |n::l=>Rz G ts n/\HH G ts l
def HH.mem{ts:List (OI->Ty)}: ∀{l:List NE},HH G ts l-> ∀n∈l,Rz G ts n
 |_::_,⟨h,_⟩,_,.head _=>h
 |_::_,⟨_,h⟩,_,.tail _ hm=>HH.mem h _ hm
def me(E:En)(ops:Array Oper)(O:List OE)(need:jM)(o:Oper)(post:OI->List OE)(t:OI->Ty):Prop:=
 ∀a w S,jo w S->cZ E.base E.B w S O->cP E.N S a need->E.base<=w.heap.size->
  if Region.wanted o (yielded ops a.tmps)then Ea E.P o a w (fun a' w' => ∃v S' x,a' =a.put o.dst v/\gH (wY O) w S w' S' /\jo w' S' /\cZ E.base E.B w' S' (post x)/\(t x).p S' v)
  else∃x,cZ E.base E.B w S (post x)/\(t x).p S undef
def cx{need:jM}{t:OI->Ty}(T:o.guard=none)(h:EffOK E O need o post t):me E ops O need o post t:=fun a w S hs ho X V=>by
 have:Region.wanted o (yielded ops a.tmps)=true:=by unfold Region.wanted;rw [T]
 rw [this,bD rfl]
 exact h a w S hs ho X V
def fJ(es:List Bool)(i:Nat):Nat:=(es.take i).countP (· ==true)
def GC(L:List Oper)(es:List Bool):Bool:=(List.range es.length).all fun i=>(List.range i).all fun j=> !((es[i]?).getD false&&(es[j]?).getD false)||lD L L.length i j
structure SO(E:En)(G:jM)(l:List Oper)(ts:List (OI->Ty))(Om:Nat->(Nat->OI)->List OE)(es:List Bool)(done:Array Bool)(a:Act)(w:World)(S:SH)(σ:Nat->OI)(c:Nat):Prop where
 ext:gH E.B E.w0 E.S0 w S
 sat:jo w S
 own:cZ E.base E.B w S (Om c σ)
 size:a.tmps.size=E.N.n
 defers:a.defers=E.N.ds
 dsz:done.size=l.length
 down: ∀j o,l[j]? =some o->done.getD j false=true-> ∀e∈o.after,Region.binds .any e=true->done.getD e.on false=true
 old: ∀k t,bJ G k=some t->(∀j o,l[j]? =some o->done.getD j false=true->o.dst≠some k)->t.p S (a.tmps.getD k undef)
 new: ∀j o d f,l[j]? =some o->done.getD j false=true->o.dst=some d->ts[j]? =some f->(f (σ j)).p S (a.tmps.getD d undef)
 chain: ∀k,es[k]? =some true->(done.getD k false=true↔fJ es k<c)
variable{es:List Bool}
def AV: ∀{i j:Nat},i<j->es[i]? =some true->fJ es i<fJ es j:=by
 induction es with
 |nil=>intro i j _ h;simp at h
 |cons e es ih=>
  intro i j hij h
  cases j with
  |zero=>omega
  |succ j=>
   cases i with
   |zero=>simp at h;subst h;simp [fJ]
   |succ i=>
    have:=ih (i:=i) (j:=j) (by omega) (by simpa using h)
    cases e<;>simp [fJ]at this ⊢ <;>omega
def th: ∀{c k:Nat},c<fJ es k-> ∃i,i<k/\es[i]? =some true/\fJ es i=c:=by
 induction es with
 |nil=>intro c k h;simp [fJ]at h
 |cons e es ih=>
  intro c k h
  cases k with
  |zero=>simp [fJ]at h
  |succ k=>
   cases e with
   |false=>
    obtain⟨i,Y,J,Z⟩:=ih (c:=c) (k:=k) (by simpa [fJ] using h)
    exact⟨i+1,by omega,by simpa using J,by simpa [fJ] using Z⟩
   |true=>
    cases c with
    |zero=>exact⟨0,by omega,rfl,by simp [fJ]⟩
    |succ c=>
     obtain⟨i,Y,J,Z⟩:=ih (c:=c) (k:=k) (by simp [fJ]at h ⊢;omega)
     exact⟨i+1,by omega,by simpa using J,by simp [fJ]at Z ⊢;omega⟩
section
variable{ts:List (OI->Ty)}{Om:Nat->(Nat->OI)->List OE}
def SO.step{σ:Nat->OI}{c c' :Nat}(h:SO E G L ts Om es done a w S σ c){f:OI->Ty}{v:Value}{x:OI}{C:Nat->Prop}(hi:L[i]? =some o)(hd:o.dst=some d)(hdN:d<E.N.n)(hs2: ∀j p,L[j]? =some p->done.getD j false=true->p.dst=some d->i=j)(hwait: ∀e∈o.after,Region.binds .any e=true->done.getD e.on false=true)(D:ts[i]? =some f)(hun:done.getD i true=false)(hext:gH C w S w' S')(hC: ∀b,C b->E.base<=b\/E.B b)(hsat:jo w' S')(hown:cZ E.base E.B w' S' (Om c' (Fo σ i x)))(hv:(f x).p S' v)(hch: ∀k,es[k]? =some true->((done.setIfInBounds i true).getD k false=true↔fJ es k<c')):
  SO E G L ts Om es (done.setIfInBounds i true) (a.put o.dst v) w' S' (Fo σ i x) c' :=by
 have hda:d<a.tmps.size:=by rw [h.size];exact hdN
 have hlt:i<done.size:=by rw [h.dsz];exact(qf.1 hi).1
 have hset: ∀j,(done.setIfInBounds i true).getD j false=true->j=i\/done.getD j false=true:=fun j hj=>by
  by_cases hij:i=j
  ·exact .inl hij.symm
  ·rw [sf false hij]at hj;exact .inr hj
 have hseti:(done.setIfInBounds i true).getD i false=true:=by simp [hlt]
 have hun' :done.getD i false=false:=by simp [hlt]at hun ⊢;exact hun
 refine⟨h.ext.step hext hC,hsat,hown,?_,?_,by simp [h.dsz],fun j p hj hdone e he V=>?_,fun k u hk hno=>?_,fun j p d' u hj hdone hd' hu=>?_,hch⟩
 ·rw [hd];simp [Act.put,h.size]
 ·rw [hd];exact h.defers
 ·rcases hset j hdone with rfl|hj'
  ·rw [hi]at hj
   have:o=p:=by simpa using hj
   subst this
   exact sQ (hwait e he V)
  ·exact sQ (h.down j p hj hj' e he V)
 ·have hne:d≠k:=fun e=>hno i o hi hseti (by rw [hd,e])
  rw [hd,ph hda,bo hne]
  exact u.mono hext.keep (h.old k u hk fun j p hj hdone=>hno j p hj (sQ hdone))
 ·rw [hd,ph hda]
  by_cases hij:j=i
  ·subst hij
   rw [hi]at hj
   have:o=p:=by simpa using hj
   subst this
   rw [hd]at hd'
   have:d=d' :=by simpa using hd'
   subst this
   rw [bD rfl]
   rw [D]at hu
   have:f=u:=by simpa using hu
   subst this
   rw [Ji]
   exact hv
  ·have hj' :=(hset j hdone).resolve_left hij
   have hne:d≠d' :=fun e=>by
    subst e
    have:=hs2 j p hj hj' hd'
    exact hij this.symm
   rw [bo hne,zI σ x hij]
   exact Ty.mono _ hext.keep (h.new j p d' u hj hj' hd' hu)
end

section
variable{ty:TypeId}
def BU(D:E.P.underlying t=some (.slice e))(I:aE E.N G x (tV (.slice none 0 0))):bR E O G ⟨dst,.call ⟨.builtin .len,#[x],#[t]⟩,ty,pos,after,g⟩ (H (rI .i64) (0:Int)):=
 .of_pure fun a w S _ _ X=>by
  have Y:a.eval x= .slice none 0 0:=I S a X
  refine⟨.int .i64 0,?_,eZ.2 rfl⟩
  simp [execOp,resolve,invoke,builtin,Builtin.len_,jD D,Y,goInt]
def BV(D:E.P.underlying t=some (.slice e))(I:aE E.N G x (tV (.slice none 0 0))):bR E O G ⟨dst,.call ⟨.builtin .cap,#[x],#[t]⟩,ty,pos,after,g⟩ (H (rI .i64) (0:Int)):=
 .of_pure fun a w S _ _ X=>by
  have Y:a.eval x= .slice none 0 0:=I S a X
  refine⟨.int .i64 0,?_,eZ.2 rfl⟩
  simp [execOp,resolve,invoke,builtin,Builtin.cap_,jD D,Y,goInt]
def Ec{hi:Operand}(D:E.P.underlying t=some (.slice hg))(ti:TI E.P hg sz bytes agg z)(I:aE E.N G x (tV (.slice none 0 0)))(hhi:aE E.N G hi (H (rI k) (0:Int))):
  bR E O G ⟨dst,.slice t x none (some hi) none,ty,pos,after,g⟩ (tV (.slice none 0 0)):=
 .of_pure fun a w S _ _ X=>by
  have Y:a.eval x= .slice none 0 0:=I S a X
  have h6:=eZ.1 (hhi S a X)
  refine⟨.slice none 0 0,?_,rfl⟩
  have V:=iu (P:=E.P) (w:=w) (k:=k) (n:=(0:Int)) (y:=0) (code:= .sliceAcap) (by omega) (by omega)
  simp [execOp,Instr.sliceAt,Y,h6,Instr.slice,jD D,Instr.sliceBounds,V,iu (k:=k) (n:=(0:Int)) (y:=0) (by omega) (by omega),ti.sizeOf]
end

def zx{α:Type}(n:Int)(z:α):Option (List α):=if 0<=n/\n<=68719476736 then some (List.replicate n.toNat z)else none
def DC{n:Int}{z:α}(h:zx n z=some zs): ∃m:Nat,n=m/\m<=68719476736/\zs=List.replicate m z:=by
 unfold zx at h
 split at h
 ·rename_i hc;exact⟨n.toNat,by omega,by omega,by simpa using h.symm⟩
 ·cases h
def xK{α:Type}{r:Rp α}{x:α}{z:List Value}(I: ∀S,r.rc S z x)(S:SH): ∀n:Nat,qK r S (List.replicate n z).flatten (List.replicate n x)
 |0=>rfl
 |n+1=>⟨z,_,by rw [List.replicate_succ,List.flatten_cons],I S,xK I S n⟩
def Aj(z:List Value):(List.range z.length).map (fun i=>z[i%z.length]?.getD default)=z:=by
 apply BG
 intro k
 rcases ll k z.length with h|h
 ·rw [yp,List.getElem?_range h]
  simp [Nat.mod_eq_of_lt h,h]
 ·rw [zw (by simpa using h),zw h]
def oJ(z:List Value)(n:Nat):(Builtin.zeroCells z.toArray n).toList=(List.replicate n z).flatten:=by
 unfold Builtin.zeroCells
 simp
 induction n with
 |zero=>simp
 |succ n ih=>
  rw [List.replicate_succ,List.flatten_cons,<-ih,Nat.succ_mul,Nat.add_comm,List.range_add,yW,Aj,yl]
  congr 1
  apply Bg
  intro i _
  simp
section
variable{ty:TypeId}
def flat_len(h:z.length=sz)(n:Nat):(List.replicate n z).flatten.length=n*sz:=by
 simp [h]
def EW{x:α}{n:Int}{s y:Operand}{kn:IntKind}(ti:TI E.P hg sz bytes agg z)(hsz:r.sz=sz)(hz:Nat.beq z.length sz=true)(h0:Nat.blt 0 sz=true)(h128:Nat.ble bytes 2048=true)(D:E.P.underlying t=some (.slice hg))(ht' :E.P.underlying t' =some (.int kn))(I: ∀S,r.rc S z x)(hs' :aE E.N G s (tV (.slice none 0 0)))(hy:aE E.N G y (H (rI k) n))(hn:0<n)(h:zx n x=some zs):
  EffOK E O G ⟨some d,.call ⟨.builtin .append,#[s,y],#[t,t']⟩,ty,pos,after,g⟩ (fun i=>fi r hg (i.h 0).1 (i.h 0).2 zs::O) (fun i=>tV (aK (i.h 0).1 (i.h 0).2 zs.length)):=fun a w S hs ho X V=>by
 subst hsz
 obtain⟨i,zv,hi,Y,J,Z,h4⟩:=ti.get
 obtain⟨m,rfl,hm,rfl⟩:=DC h
 have hsv:a.eval s= .slice none 0 0:=hs' S a X
 have hyv:=eZ.1 (hy S a X)
 have hz2:z.length=r.sz:=nD hz
 have h128' :=po h128
 have h0' :0<r.sz:=by simpa [tA] using h0
 have hbytes:m*i.bytes<=281474976710656:=by
  have:m*i.bytes<=68719476736*2048:=Nat.mul_le_mul hm (by omega)
  omega
 have hr:=Lib.run_append_nil_zeros (P:=E.P) w t t' ty hg i zv k kn D ht' hi Z m (by omega) (by omega) (by omega) hbytes
 have hge:=grownCap_ge w m 0 hg
 have hle:=grownCap_le_maxLen w m 0 hg (by simp only [maxLen];omega)
 generalize grownCap w m 0 hg=cp at hr hge hle
 obtain⟨C,hC⟩: ∃C,Builtin.zeroCells zv.cells m++Builtin.zeroCells zv.cells (cp-m)=C:=⟨_,rfl⟩
 rw [hC]at hr
 obtain⟨he0,hs0⟩:=uF (w:=w) hs
 obtain⟨he,hs2,hno⟩:=ij (w:=w.drew) (.cells C hg (0,0)) hs0
 have hx2:gH oT w S (w.drew.alloc (.cells C hg (0,0))) S:=he0.trans he
 have hrun:(execOp a.eval ⟨some d,.call ⟨.builtin .append,#[s,y],#[t,t']⟩,ty,pos,after,g⟩).run E.P w= .ok (.value (.slice (some ⟨w.heap.size,0,none⟩) m cp)) (w.drew.alloc (.cells C hg (0,0))):=by
  simp [execOp,resolve,invoke,builtin,hsv,hyv,hr]
 refine⟨fun c h=>(by cases h),?_⟩
 rw [hrun]
 have hfl:=flat_len hz2 m
 have hC1:C.toList=(List.replicate m z).flatten++(List.replicate (cp-m) z).flatten:=by
  rw [<-hC,Array.toList_append,h4,oJ,oJ]
 refine⟨_,S,oi (some w.heap.size) cp,rfl,hx2.more fun _ V=>V.elim,hs2,re ho hx2 (e:=fi r hg (some w.heap.size) cp (List.replicate m x)) ⟨(List.replicate m z).flatten,⟨C,wu w.drew _,by simpa using hge,hle,?_,?_⟩,xK I S m,fun b V=>by rw [<-pZ V];exact hno⟩ (fun b V=>zq (pZ V)) V,?_⟩
 ·have:C.toList.length=cp*r.sz:=by
   rw [hC1,jE,hfl,flat_len hz2,<-tN];congr 1;omega
  simpa using this
 ·rw [hC1,List.length_replicate,<-hfl,List.take_left]
 ·show _=aK _ _ _
  rw [List.length_replicate];rfl

def IQ{x:α}{y:Operand}(ti:TI E.P hg sz bytes agg z)(hsz:r.sz=sz)(hz:Nat.beq z.length sz=true)(D:E.P.underlying t=some (.slice hg))(I: ∀S,r.rc S z x)(hone:z.all (·.oneCell')=true)(hs:db xs lo (xs.length:Int)=some ys)(hy:aE E.N G y (tV (mJ sz l cap lo.toNat ys.length)))(hzs:xs.take lo.toNat++List.replicate ys.length x=zs)(k:RG E ops Q rest (fi r hg l cap zs::O) G):
  RG E ops Q (⟨none,.call ⟨.builtin .clear,#[y],#[t]⟩,ty,pos,after,none⟩::rest) (fi r hg l cap xs::O) G:= .of rfl fun a w S st=>by
 subst hsz
 subst hzs
 obtain⟨i,zv,hi,Y,J,Z,h4⟩:=ti.get
 have hyv:a.eval y=mJ r.sz l cap lo.toNat ys.length:=hy S a st.facts
 have hz2:z.length=r.sz:=nD hz
 obtain⟨lo',m,rfl,hm,h5,h6,rfl⟩:=fa hs
 have hm' :m=xs.length:=by omega
 subst hm'
 rw [zn]at hyv k
 rw [tR]at hyv k
 by_cases hnil:xs.drop lo' =[]
 ·have hlo:xs.length<=lo' :=Bi.1 hnil
  rw [hnil]at hyv k
  have e1:xs.take lo' ++List.replicate ([]:List α).length x=xs:=by simp [nE hlo]
  rw [e1]at k
  have hrun:(execOp a.eval ⟨none,.call ⟨.builtin .clear,#[y],#[t]⟩,ty,pos,after,none⟩).run E.P w= .ok (.value (.tuple #[])) w:=by
   cases l<;>simp [execOp,resolve,invoke,builtin,Builtin.clear_,jD D,hyv,mJ]
  refine⟨fun c h=>(by cases h),?_⟩
  rw [hrun]
  exact k _ _ S st
 ·obtain⟨⟨cells,hraw,hrc,hno⟩,hbase⟩:=st.own.1
  have hlt:lo' <xs.length:=by
   rcases ll lo' xs.length with h|h
   ·exact h
   ·exact absurd (Ct h) hnil
  cases l with
  |none=>have:=hraw.1;omega
  |some b=>
   obtain⟨cur,g1,g2,g3,g4,g5⟩:=hraw
   have hno' :S b=none:=hno b rfl
   have hne: ¬(cap=lo'):=by omega
   have hld:(xs.drop lo').length=xs.length-lo' :=by simp
   have hfl:=flat_len hz2 (xs.length-lo')
   have hones: ∀u∈(List.replicate (xs.length-lo') z).flatten,u.oneCell' =true:=by
    intro u hu
    obtain⟨q,hq,hu⟩:=List.mem_flatten.1 hu
    rw [(List.mem_replicate.1 hq).2]at hu
    exact jK.1 hone u hu
   have hmul:xs.length*r.sz<=cur.size:=by rw [g4];exact wq _ g2
   have hfit:lo' *r.sz+(xs.length-lo')*r.sz=xs.length*r.sz:=by rw [<-tN];congr 1;omega
   have hst:=run_storeCells_at E.P b (lo' *r.sz) hg (List.replicate (xs.length-lo') z).flatten 0 cur w g1 (by omega) hones
   simp only [tP]at hst
   have hrun:(execOp a.eval ⟨none,.call ⟨.builtin .clear,#[y],#[t]⟩,ty,pos,after,none⟩).run E.P w= .ok (.value (.tuple #[])) (w.setRow b (cur.toList.take (lo' *r.sz)++(List.replicate (xs.length-lo') z).flatten++cur.toList.drop (lo' *r.sz+(List.replicate (xs.length-lo') z).flatten.length)).toArray):=by
    have e1: ∃q,xs.length-lo' =q+1:=⟨xs.length-lo' -1,by omega⟩
    obtain⟨q,hq⟩:=e1
    have e2:a.eval y= .slice (some ⟨b,lo' *r.sz,none⟩) (q+1) (cap-lo'):=by rw [hyv,hld,hq];simp [mJ,hne]
    rw [hq]at hst ⊢
    simp [execOp,resolve,invoke,builtin,Builtin.clear_,jD D,e2,zeroValue,typeInfo,hi,Z,h4,oJ,hst]
   refine⟨fun c h=>(by cases h),?_⟩
   rw [hrun]
   have hset:=setRow_heap w b cur (cur.toList.take (lo' *r.sz)++(List.replicate (xs.length-lo') z).flatten++cur.toList.drop (lo' *r.sz+(List.replicate (xs.length-lo') z).flatten.length)).toArray hg _ g1
   have hl2:(xs.take lo' ++List.replicate (xs.drop lo').length x).length=xs.length:=by simp;omega
   have hsp:qK r S (cells.take (lo' *r.sz)) (xs.take lo'):=by
    have e:xs=xs.take lo' ++xs.drop lo' :=(r0 _ _).symm
    rw [e]at hrc
    have:=(oP hrc).1
    rwa [show(xs.take lo').length=lo' from by simp;omega]at this
   have hcl:((cur.toList.take (lo' *r.sz)++(List.replicate (xs.length-lo') z).flatten++cur.toList.drop (lo' *r.sz+(List.replicate (xs.length-lo') z).flatten.length)).toArray).toList.take ((xs.take lo' ++List.replicate (xs.drop lo').length x).length*r.sz)=cells.take (lo' *r.sz)++(List.replicate (xs.length-lo') z).flatten:=by
    rw [hl2,<-g5,vt,u3 (wq _ (by omega))]
    have hlen1:(cur.toList.take (lo' *r.sz)++(List.replicate (xs.length-lo') z).flatten).length=xs.length*r.sz:=by
     rw [jE,hfl,zm,yq,u3 (by omega)];exact hfit
    rw [<-hlen1,List.take_left]
   obtain⟨q1,q2,q3⟩:=nt (O:=O) st.sat (fi r hg (some b) cap xs) (fi r hg (some b) cap (xs.take lo' ++List.replicate (xs.drop lo').length x)) st.own (fun k=>⟨fun h=>(pZ h).symm,fun h=>by rw [h];rfl⟩) (fun k=>⟨fun h=>(pZ h).symm,fun h=>by rw [h];rfl⟩)
    (w' :=w.setRow b (cur.toList.take (lo' *r.sz)++(List.replicate (xs.length-lo') z).flatten++cur.toList.drop (lo' *r.sz+(List.replicate (xs.length-lo') z).flatten.length)).toArray) ⟨rfl,rfl,rfl,by simp [World.setRow],iQ _⟩ (fun k hk=>setRow_other w b k _ hk)
    ⟨cells.take (lo' *r.sz)++(List.replicate (xs.length-lo') z).flatten,⟨_,hset,by rw [hl2];exact g2,g3,by simp only [BF,jE,zm,Bc,yq];omega,hcl⟩,by rw [hld];exact s3 hsp (xK I S _),fun k hk=>by rw [<-pZ hk];exact hno'⟩ hno'
   ·exact k _ _ S ⟨st.ext.step q1 (fun c hc=>hbase c (by rw [hc];rfl)),q2,q3,st.facts⟩
end

def nK{α:Type}(r:Rp α)(n:Nat):Rp (List α) where
 sz:=n*r.sz
 agg:=true
 rc:=fun S cs xs=>xs.length=n/\qK r S cs xs
 mono:=fun h ⟨Y,J⟩=>⟨Y,qJ h J⟩
 len:=fun⟨Y,J⟩=>by rw [mi J,Y]
 one:=fun⟨_,J⟩=>ze J
 sc:=fun h=>by cases h
section
section
variable{ty:TypeId}
def pi{i:Int}(D:E.P.underlying t=some (.array n e))(ti:TI E.P e sz bytes agg z)(hsz:r.sz=sz)(I:aE E.N G x (bw (nK r n) xs))(hi:aE E.N G ix (H (rI k) i))(hy:cQ xs i=some y):
  bR E O G ⟨dst,.indexAddr t x ix,ty,pos,after,g⟩ (bw r y):=
 .of_pure fun a w S _ _ X=>by
  subst hsz
  obtain⟨b,off,c,hg,fr,Y,J,Z,h4⟩:=I S a X
  have h5:a.eval ix= .int k i:=eZ.1 (hi S a X)
  obtain⟨h0,hy'⟩:=iL hy
  have hlt:i.toNat<xs.length:=(qf.1 hy').1
  have hc:0<=i/\i<(n:Int):=⟨h0,by omega⟩
  refine⟨.pointer (some ⟨b,off+i.toNat*r.sz,none⟩),?_,b,_,c,hg,fr,rfl,J,?_⟩
  ·simp [execOp,Y,h5,Instr.indexAt,asIntOf,jD D,Instr.sureAddr,hc,ti.sizeOf,iA]
  ·have h6:=s0 h4 hy'
   rw [zj,vt,pX]at h6
   have hmul:i.toNat*r.sz+r.sz<=n*r.sz:=by rw [<-Nat.succ_mul];exact wq _ (by omega)
   have hmin:min r.sz ((nK r n).sz-i.toNat*r.sz)=r.sz:=by
    show min r.sz (n*r.sz-i.toNat*r.sz)=r.sz
    omega
   rwa [hmin]at h6
def fO{i:Int}(D:E.P.underlying t=some (.array n e))(ti:TI E.P e sz bytes agg z)(hm:bx (nK r n) hg b xs∈O)(I:aE E.N G x (tV (ax b 0)))(hi:aE E.N G ix (H (rI k) i))(hy:cQ xs i=some y):
  bR E O G ⟨dst,.indexAddr t x ix,ty,pos,after,g⟩ (tV (ax b (i.toNat*sz))):=
 .of_pure fun a w S _ ho X=>by
  have Y:a.eval x=ax b 0:=I S a X
  have h5:a.eval ix= .int k i:=eZ.1 (hi S a X)
  obtain⟨⟨_,c,_,h4,_⟩,_⟩:=ho.mem _ hm
  obtain⟨h0,hy'⟩:=iL hy
  have hlt:i.toNat<xs.length:=(qf.1 hy').1
  have hc:0<=i/\i<(n:Int):=⟨h0,by omega⟩
  refine⟨_,?_,rfl⟩
  simp [execOp,Y,h5,ax,Instr.indexAt,asIntOf,jD D,Instr.sureAddr,hc,ti.sizeOf,iA]
end
def Mf{i:Int}(hy:cQ xs i=some y){cs:List Value}(h:(nK r n).rc S cs xs):r.rc S ((cs.drop (i.toNat*r.sz)).take r.sz) y:=s0 h.2 (iL hy).2
def Al{i:Int}{p:Operand}{ty:TypeId}(ti:TI E.P U sz bytes agg z)(hsz:r.sz=sz)(hag:r.agg=agg)(hm:bx (nK r n) hg b xs∈O)(hy:cQ xs i=some y)(hp:aE E.N G p (tV (ax b (i.toNat*r.sz)))):bR E O G ⟨dst,.load U p,ty,pos,after,g⟩ (H r y):=
 .of_pure fun a w S _ ho X=>by
  have Y:a.eval p=ax b (i.toNat*r.sz):=hp S a X
  obtain⟨⟨_,cur,h5,h6⟩,_⟩:=ho.mem _ hm
  have h7:=Mf hy h6
  refine⟨_,?_,_,rfl,h7⟩
  simp [execOp,Y,ax,Instr.loadAt,Instr.sureAddr,i9 ti h5 hsz hag h7]
def IN{v:α}{i:Int}{p:Operand}{ty:TypeId}(ti:TI E.P U sz bytes agg z)(hsz:r.sz=sz)(hy:cQ xs i=some y)(hz:xs.set i.toNat v=zs)(hp:aE E.N G p (tV (ax b (i.toNat*r.sz))))(hv:aE E.N G x (H r v))(k:RG E ops Q rest (bx (nK r n) hg b zs::O) G):RG E ops Q (⟨none,.store U p x,ty,pos,after,none⟩::rest) (bx (nK r n) hg b xs::O) G:= .of rfl fun a w S st=>by
 subst hz
 have Y:a.eval p=ax b (i.toNat*r.sz):=hp S a st.facts
 obtain⟨ds,J,Z⟩:=hv S a st.facts
 obtain⟨⟨hno,cur,h5,h6⟩,_⟩:=st.own.1
 obtain⟨h0,hy'⟩:=iL hy
 have hlt:i.toNat<xs.length:=(qf.1 hy').1
 have hl:=mi h6.2
 simp only [yq]at hl
 have hmul:i.toNat*r.sz+r.sz<=xs.length*r.sz:=by rw [<-Nat.succ_mul];exact wq _ hlt
 obtain⟨w',hr,e1,e2,e3,e4,e5,e6⟩:=iG ti hsz Z h5 (off:=i.toNat*r.sz) (by omega)
 have hrun:(execOp a.eval ⟨none,.store U p x,ty,pos,after,none⟩).run E.P w= .ok .skip w' :=by
  simp [execOp,Y,J,Instr.storeAt,ax,Instr.sureAddr,hr]
 refine⟨fun c h=>(by cases h),?_⟩
 rw [hrun]
 obtain⟨g1,g2,g3⟩:=nt (O:=O) st.sat (bx (nK r n) hg b xs) (bx (nK r n) hg b (xs.set i.toNat v)) st.own (fun _=>sd) (fun _=>sd) ⟨e1,e2,e3,e4.1,e4.2⟩ e6 ⟨hno,_,e5,by rw [BD];exact h6.1,wH Z h6.2 hlt⟩ hno
 exact k _ _ S ⟨st.ext.step g1 (fun c hc=>st.own.1.2 c hc),g2,g3,st.facts⟩
end
def vk{α:Type}{r:Rp α}{c:Value}{x:α}(h: ∀S,r.rc S [c] x)(S:SH): ∀n,qK r S (List.replicate n c) (List.replicate n x)
 |0=>rfl
 |n+1=>⟨[c],_,rfl,h S,vk h S n⟩
def AU{c:Value}{x:α}(n:Nat)(h: ∀S,r.rc S [c] x): ∀S,(nK r n).rc S (List.replicate n c) (List.replicate n x):=fun S=>⟨List.length_replicate,vk h S n⟩
def OM(n:Nat):Option Unit:=if n<=68719476736 then some ()else none
def RK(n:Int):Option Unit:=if 0<n then some ()else none
def Ke{n:Int}{u:Unit}(h:RK n=some u):0<n:=by
 unfold RK at h
 split at h
 ·assumption
 ·cases h
def Li{e:Exit}(mm:Bool)(r:Rp α)(hg:TypeId)(h:AT E Q e (jJ mm r hg none 0 []::O) G):AT E Q e O G:=fun a w S st=>h a w S (st.fresh mm r hg)
def Ce{x:α}(h:db xs lo (xs.length:Int)=some ys)(hz:xs.take lo.toNat++List.replicate ys.length x=zs):zs.length=xs.length:=by
 obtain⟨l,m,rfl,hm,Y,J,rfl⟩:=fa h
 have hm' :m=xs.length:=by omega
 subst hm'
 rw [<-hz]
 simp
 omega

def tC(n:FuncId)(cts:List Ty):Ty where
 p:=fun S v=> ∃cap:List Value,v= .func (.func n) #[] cap.toArray/\tM S cts cap
 mono:=fun h ⟨cap,e,k⟩=>⟨cap,e,tM.mono h k⟩
section
section
variable{ty:TypeId}
def Ed{fid:FuncId}{caps:List Operand}{cts:List Ty}(hcap:hG E.N G caps cts):bR E O G ⟨dst,.makeFunc (.func fid) #[] caps.toArray,ty,pos,after,g⟩ (tC fid cts):=
 .of_pure fun a w S _ _ X=>⟨.func (.func fid) #[] (caps.map a.eval).toArray,by simp [execOp,Instr.makeFunc],_,rfl,hcap.tys X⟩
end
def x8{n:FuncId}{cts:List Ty}{ty:TypeId}{fo:Operand}{xs:List Operand}(O1 Or:List OE){t:OI->Ty}{O2:OI->List OE}(hO:O=O1++Or)(hc:al E.P n=true)(hs:fg E.P n (ts++cts) O1 t O2)(X:aE E.N G fo (tC n cts))(I:hG E.N G xs ts)(hpost: ∀i,O2 i++Or=post i):
  EffOK E O G ⟨some d,.call ⟨.value fo,xs.toArray,ats⟩,ty,pos,after,g⟩ post t:=fun a w S hsat ho hF V=>by
 subst hO
 obtain rfl:(fun i=>O2 i++Or)=post:=funext hpost
 obtain⟨cap,e,hcap⟩:=X S a hF
 have hr:(execOp a.eval ⟨some d,.call ⟨.value fo,xs.toArray,ats⟩,ty,pos,after,g⟩).run E.P w= .ok (.enter n ((xs.map a.eval).toArray++cap.toArray)) w:=by
  simp [execOp,resolve,e,Deferred.ofValue,invoke,fj hc]
 refine⟨fun c h=>(by cases h),?_⟩
 rw [hr]
 have e2:(xs.map a.eval).toArray++cap.toArray=((xs.map a.eval)++cap).toArray:=by simp
 rw [e2]
 exact(hs w S _ hsat ((I.tys hF).append hcap) (mA ho).1.weak).mono fun en w' ⟨i,v,S',he,hv,Y,J,Z,h4⟩=>⟨_,he,v,S',i,rfl,Y.more fun b ⟨f,X,V⟩=>⟨f,BH _ X,V⟩,J,cZ.turn ho V Y Z h4,hv⟩
end

def Bw{α:Type}(xs:List α)(lo:Int)(n:Nat)(i:Int):Option α:=if 0<=i/\i<(n:Int)then cQ xs (lo+i)else none
def uT{i:Int}(h:Bw xs lo n i=some y):0<=i/\i<(n:Int)/\cQ xs (lo+i)=some y:=by
 unfold Bw at h
 split at h
 ·rename_i hc;exact⟨hc.1,hc.2,h⟩
 ·cases h
def xB(h:db xs lo hi=some ys):0<=lo:=by
 obtain⟨l,m,rfl,_,_,_,_⟩:=fa h
 omega
section
def ox(hm:jJ mm r hg l cap xs∈O)(hs:db xs lo hi=some ys)(h:(l=none->ys.length=0)/\ys.length<=maxLen->RG E ops Q rest O G):RG E ops Q rest O G:=fun a w S st=>by
 refine h ?_ a w S st
 obtain⟨cells,Y,_⟩:=(st.own.mem _ hm).1
 obtain⟨l',m,_,_,_,h8,rfl⟩:=fa hs
 have hlen:((xs.take m).drop l').length<=xs.length:=by simp;omega
 cases l with
 |none=>have:=Y.1;exact⟨fun _=>by omega,by omega⟩
 |some b=>obtain⟨cur,_,g2,g3,_⟩:=Y;exact⟨fun h=>(by cases h),by omega⟩
section
variable{ty:TypeId}
def Hc{lo:Nat}(D:E.P.underlying t=some (.slice e))(hv:l=none->n=0)(I:aE E.N G x (tV (mJ sz l cap lo n))):
  bR E O G ⟨dst,.call ⟨.builtin .len,#[x],#[t]⟩,ty,pos,after,g⟩ (H (rI .i64) (n:Int)):=
 .of_pure fun a w S _ ho X=>by
  have Y:a.eval x=mJ sz l cap lo n:=I S a X
  obtain⟨ad,c,Z⟩: ∃ad c,mJ sz l cap lo n= .slice ad n c:=by
   cases l with
   |none=>rw [hv rfl];exact⟨none,0,rfl⟩
   |some b=>exact⟨_,_,rfl⟩
  refine⟨.int .i64 n,?_,eZ.2 rfl⟩
  simp [execOp,resolve,invoke,builtin,Builtin.len_,jD D,Y,Z,goInt]
def rR{i:Int}(D:E.P.underlying t=some (.slice e))(ti:TI E.P e sz bytes agg z)(hsz:r.sz=sz)(hm:jJ mm r U l cap xs∈O)(hl0:0<=lo)(I:aE E.N G x (tV (mJ sz l cap lo.toNat n)))(hi' :aE E.N G ix (H (rI k) i))(hy:Bw xs lo n i=some y):
  bR E O G ⟨dst,.indexAddr t x ix,ty,pos,after,g⟩ (tV (jf l ((lo+i).toNat*sz+0))):=
 .of_pure fun a w S _ ho X=>by
  subst hsz
  have Y:a.eval x=mJ r.sz l cap lo.toNat n:=I S a X
  have Z:a.eval ix= .int k i:=eZ.1 (hi' S a X)
  obtain⟨hi0,hin,hxi⟩:=uT hy
  obtain⟨_,hx'⟩:=iL hxi
  obtain⟨b,cur,rfl,_,hle,_⟩:=pA (ho.mem _ hm).1 hx'
  have hlt2:(lo+i).toNat<xs.length:=(qf.1 hx').1
  have hne: ¬(cap=lo.toNat):=by omega
  refine⟨_,?_,rfl⟩
  have hc:0<=i/\i<(n:Int):=⟨hi0,hin⟩
  have e1:(lo+i).toNat=lo.toNat+i.toNat:=by omega
  simp [execOp,Y,Z,mJ,hne,Instr.indexAt,asIntOf,jD D,hc,ti.sizeOf,iA,jf,ax,e1,tN]
end
end

section
variable{ty:TypeId}{l:List Oper}
end

def og3 [Inhabited α]{c b:Bool}{x:Option α}{k:α->Option β}{d:Option β}{r:β}(h:c=true->(if b=true then x.bind k else d)=some r): ∃y,((c&&b)=true->x=some y/\k y=some r)/\(c=true->b=false->d=some r):=by
 cases c with
 |false=>exact⟨default,fun e=>(by cases e),fun e=>(by cases e)⟩
 |true=>
  obtain⟨y,Y,J⟩:=og (h rfl)
  exact⟨y,fun e=>Y e,fun _ e=>J e⟩
def nX{κ β:Type} [DecidableEq κ]:List (κ×β)->κ->Option β
 |[],_=>none
 |p::m,k=>if p.1=k then some p.2 else nX m k
def ez{κ β:Type} [DecidableEq κ]:List (κ×β)->κ->β->List (κ×β)
 |[],k,v=>[(k,v)]
 |p::m,k,v=>if p.1=k then(k,v)::m else p::ez m k v
def A4{κ:Type}(P:Program)(kt:TypeId)(kv:κ->Value):Prop:= ∃d,P.underlying kt=some d/\(∀a,MapKept.IsKey d (kv a))/\ ∀a b,kv a=kv b->a=b
def RW(k:IntKind)(n:Int):Value:= .int k n
def kF{kt:TypeId}(h:P.underlying kt=some (.int k)):A4 P kt (RW k):=⟨_,h,fun _=>rfl,fun a b e=>by injection e⟩
structure MV(β:Type) where
 p:World->SH->β->Option Nat×Nat->Value->Prop
 here: ∀{w S y o v},p w S y o v-> ∀j,o.1=some j->j<w.heap.size
 kept: ∀{C w w' S S' y o v},p w S y o v->gH C w S w' S' ->(∀j,o.1=some j-> ¬C j)->p w' S' y o v
def yI{β:Type}(ty:β->Ty):MV β where
 p:=fun _ S y o v=>o.1=none/\(ty y).p S v
 here:=fun h j hj=>by rw [h.1]at hj;cases hj
 kept:=fun h k _=>⟨h.1,(ty _).mono k.keep h.2⟩
section
variable{κ:Type} [DecidableEq κ]{hb:MV β}{kv:κ->Value}{d:TypeDesc}{k:κ}
def tI(hb:MV β)(kv:κ->Value)(w:World)(S:SH)(h:Option κ):List MapEntry->List (Option Nat×Nat)->List (κ×β)->Prop
 |[],[],[]=>True
 |e::es,o::os,q::m=>e.key=kv q.1/\(if h=some q.1 then o.1=none else hb.p w S q.2 o e.val)/\(∀o' ∈os,∀j,o.1=some j->o'.1≠some j)/\(∀p∈m,p.1≠q.1)/\tI hb kv w S h es os m
 |_,_,_=>False
def Ca{h:Option κ}: ∀{es:List MapEntry} {os:List (Option Nat×Nat)} {m:List (κ×β)},tI hb kv w S h es os m-> ∀o∈os,∀j,o.1=some j->j<w.heap.size
 |[],[],[],_,o,ho,_,_=>by cases ho
 |e::es,o::os,q::m,⟨_,J,_,_,h5⟩,o',ho,j,hj=>by
  rcases fT.1 ho with rfl|ho
  ·split at J
   ·rw [J]at hj;cases hj
   ·exact hb.here J j hj
  ·exact Ca h5 o' ho j hj
def xb{C:Nat->Prop}(k:gH C w S w' S'){h:Option κ}: ∀{es:List MapEntry} {os:List (Option Nat×Nat)} {m:List (κ×β)},tI hb kv w S h es os m->(∀o∈os,∀j,o.1=some j-> ¬C j)->tI hb kv w' S' h es os m
 |[],[],[],_,_=>trivial
 |e::es,o::os,q::m,⟨Y,J,Z,h4,h5⟩,hC=>⟨Y,by
  split
  ·rename_i hh;rw [bD hh]at J;exact J
  ·rename_i hh;rw [bo hh]at J;exact hb.kept J k (hC o (lK ..)),Z,h4,xb k h5 fun o' ho=>hC o' (mZ _ ho)⟩
def yR{h:Option κ}: ∀{es:List MapEntry} {os:List (Option Nat×Nat)} {m:List (κ×β)},tI hb kv w S h es os m->(∀p∈m,h≠some p.1)->tI hb kv w S none es os m
 |[],[],[],_,_=>trivial
 |e::es,o::os,q::m,⟨Y,J,Z,h4,h5⟩,hk=>⟨Y,by
  rw [bo (hk q (lK ..))]at J
  rw [bo (by simp)];exact J,Z,h4,yR h5 fun p hp=>hk p (mZ _ hp)⟩
def p8(hd: ∀a,MapKept.IsKey d (kv a))(hi: ∀a b,kv a=kv b->a=b)(a b:κ):Instr.sameNow d (kv a) (kv b)=some (decide (a=b)):=by
 obtain⟨r,Y,J⟩:=MapKept.sameNow_of_keys (hd a) (hd b)
 rw [Y]
 by_cases h:a=b
 ·subst h;rw [J.2 rfl];simp
 ·rw [decide_eq_false h]
  cases r with
  |false=>rfl
  |true=>exact absurd (hi _ _ (J.1 rfl)) h
def oZ(hd: ∀a,MapKept.IsKey d (kv a))(hi: ∀a b,kv a=kv b->a=b): ∀{es:List MapEntry} {os:List (Option Nat×Nat)} {m:List (κ×β)} (i:Nat),tI hb kv w S none es os m->
  ∃os',(∀x∈os',x∈os\/x.1=none)/\tI hb kv w S (some k) es os' m/\
   ((nX m k=none/\Instr.findNow d (kv k) es i=some none)\/ ∃(y:β) (o:Option Nat×Nat) (e:MapEntry) (j:Nat),nX m k=some y/\o∈os/\hb.p w S y o e.val/\Instr.findNow d (kv k) es i=some (some (j,e.val))/\ ∀x∈os',∀q,o.1=some q->x.1≠some q)
 |[],[],[],i,_=>⟨[],fun x I=>(by cases I),trivial,.inl ⟨rfl,rfl⟩⟩
 |e::es,o::os,q::m,i,⟨Y,J,Z,h4,h5⟩=>by
  rw [bo (by simp)]at J
  by_cases hk:q.1=k
  ·refine⟨(none,0)::os,fun x I=>?_,⟨Y,by rw [bD (by rw [hk])],fun _ _ _ hj=>(by cases hj),h4,?_⟩,.inr ⟨q.2,o,e,i,by unfold nX;rw [bD hk],lK ..,J,?_,fun x I j hj=>?_⟩⟩
   ·rcases fT.1 I with rfl|I
    ·exact .inr rfl
    ·exact .inl (mZ _ I)
   ·have: ∀{es:List MapEntry} {os:List (Option Nat×Nat)} {m:List (κ×β)},tI hb kv w S none es os m->(∀p∈m,p.1≠k)->tI hb kv w S (some k) es os m:=by
     intro es
     induction es with
     |nil=>intro os m h _;cases os<;>cases m<;>first|trivial|exact h.elim
     |cons e es ih=>
      intro os m h hm
      cases os with
      |nil=>cases m<;>exact h.elim
      |cons o os=>
       cases m with
       |nil=>exact h.elim
       |cons q m=>
        obtain⟨g1,g2,g3,g4,g5⟩:=h
        rw [bo (by simp)]at g2
        exact⟨g1,by rw [bo (fun e=>hm q (lK ..) (pZ e).symm)];exact g2,g3,g4,ih g5 fun p hp=>hm p (mZ _ hp)⟩
    exact this h5 (fun p hp=>by rw [<-hk];exact h4 p hp)
   ·unfold Instr.findNow
    rw [Y,p8 hd hi,hk,decide_eq_true rfl]
   ·rcases fT.1 I with rfl|I
    ·exact fun e=>by cases e
    ·exact Z x I j hj
  ·obtain⟨os',g1,g2,g3⟩:=oZ hd hi (i+1) h5
   refine⟨o::os',fun x I=>?_,⟨Y,by rw [bo (fun e=>hk (pZ e).symm)];exact J,fun o' ho' j hj=>?_,h4,g2⟩,?_⟩
   ·rcases fT.1 I with rfl|I
    ·exact .inl (lK ..)
    ·exact(g1 x I).imp (mZ _) id
   ·rcases g1 o' ho' with h|h
    ·exact Z o' h j hj
    ·rw [h];exact fun e=>by cases e
   ·have X:Instr.findNow d (kv k) (e::es) i=Instr.findNow d (kv k) es (i+1):=by
     conv=>lhs;unfold Instr.findNow
     rw [Y,p8 hd hi,decide_eq_false (fun e=>hk e.symm)]
    have hm:nX (q::m) k=nX m k:=by conv=>lhs;unfold nX;rw [bo hk]
    rw [X,hm]
    refine g3.imp id fun⟨y,o1,e1,j,f1,f2,f3,f4,f5⟩=>⟨y,o1,e1,j,f1,mZ _ f2,f3,f4,fun x I q hq=>?_⟩
    rcases fT.1 I with rfl|I
    ·exact fun e=>Z o1 f2 q e hq
    ·exact f5 x I q hq
def Em(x:α)(xs:List α)(j:Nat)(f:α->α):(x::xs).modify (j+1) f=x::xs.modify j f:=by simp [List.modify_succ_cons]
def Cb(hd: ∀a,MapKept.IsKey d (kv a))(hi: ∀a b,kv a=kv b->a=b){y:β}{o:Option Nat×Nat}{v:Value}{born:Nat}(hv:hb.p w S y o v): ∀{es:List MapEntry} {os:List (Option Nat×Nat)} {m:List (κ×β)} (i:Nat),tI hb kv w S (some k) es os m->(∀o' ∈os,∀j,o.1=some j->o'.1≠some j)->
    ∃os',(∀x∈os',x∈os\/x=o)/\
      ((∃(j:Nat) (e:MapEntry),Instr.findNow d (kv k) es i=some (some (i+j,e.val))/\es[j]? =some e/\e.key=kv k/\tI hb kv w S none (es.modify j fun e=>{e with key:=kv k,val:=v}) os' (ez m k y))\/
        (Instr.findNow d (kv k) es i=some none/\tI hb kv w S none (es++[⟨kv k,v,born⟩]) os' (ez m k y)))
  |[],[],[],i,_,_=>⟨[o],fun x I=> .inr (jL.1 I),.inr ⟨rfl,⟨rfl,by rw [bo (by simp)];exact hv,fun _ h=>(by cases h),fun _ h=>(by cases h),trivial⟩⟩⟩
  |e::es,o1::os,q::m,i,⟨Y,J,Z,h4,h5⟩,ha=>by
    by_cases hk:q.1=k
    · refine⟨o::os,fun x I=>?_,.inl ⟨0,e,?_,rfl,by rw [Y,hk],?_⟩⟩
      · rcases fT.1 I with rfl|I
        · exact .inr rfl
        · exact .inl (mZ _ I)
      · unfold Instr.findNow
        rw [Y,p8 hd hi,hk,decide_eq_true rfl]
        rfl
      · unfold ez
        rw [bD hk,List.modify_zero_cons]
        exact⟨rfl,by rw [bo (by simp)];exact hv,fun o' ho' =>ha o' (mZ _ ho'),fun p hp=>by rw [<-hk];exact h4 p hp,
          yR h5 fun p hp e=>h4 p hp (by rw [hk];exact(pZ e).symm)⟩
    · obtain⟨os',g1,g2⟩:=Cb hd hi (born:=born) hv (i+1) h5 fun o' ho' =>ha o' (mZ _ ho')
      rw [bo (fun e=>hk (pZ e).symm)]at J
      have X:Instr.findNow d (kv k) (e::es) i=Instr.findNow d (kv k) es (i+1):=by
        conv=>lhs;unfold Instr.findNow
        rw [Y,p8 hd hi,decide_eq_false (fun e=>hk e.symm)]
      have hm:ez (q::m) k y=q::ez m k y:=by conv=>lhs;unfold ez;rw [bo hk]
      have hap: ∀o' ∈os',∀j,o1.1=some j->o'.1≠some j:=fun o' ho' j hj=>by
        rcases g1 o' ho' with h|rfl
        · exact Z o' h j hj
        · exact fun e=>ha o1 (lK ..) j e hj
      have hne: ∀p∈ez m k y,p.1≠q.1:=by
        have: ∀m:List (κ×β),(∀p∈m,p.1≠q.1)-> ∀p∈ez m k y,p.1≠q.1:=by
          intro m
          induction m with
          |nil=>intro _ p hp;rw [jL.1 hp];exact fun e=>hk e.symm
          |cons p0 m ih=>
            intro hm p hp
            unfold ez at hp
            split at hp
            · rcases fT.1 hp with rfl|hp
              · exact fun e=>hk e.symm
              · exact hm p (mZ _ hp)
            · rcases fT.1 hp with rfl|hp
              · exact hm _ (lK ..)
              · exact ih (fun p hp=>hm p (mZ _ hp)) p hp
        exact this m h4
      rw [X,hm]
      refine⟨o1::os',fun x I=>?_,g2.imp (fun⟨j,e',f1,f2,f3,f4⟩=>⟨j+1,e',by rw [f1];congr 3;omega,by simpa using f2,f3,?_⟩) fun⟨f1,f2⟩=>⟨f1,?_⟩⟩
      · rcases fT.1 I with rfl|I
        · exact .inl (lK ..)
        · exact(g1 x I).imp (mZ _) id
      · rw [Em]
        exact⟨Y,by rw [bo (by simp)];exact J,hap,hne,f4⟩
      · exact⟨Y,by rw [bo (by simp)];exact J,hap,hne,f2⟩
def B9{h:Option κ}: ∀{es:List MapEntry} {os:List (Option Nat×Nat)} {m:List (κ×β)},tI hb kv w S h es os m-> ∀x∈es,∃q∈m,x.key=kv q.1
 |[],[],[],_,x,I=>by cases I
 |e::es,o::os,q::m,⟨Y,_,_,_,h5⟩,x,I=>by
  rcases fT.1 I with rfl|I
  ·exact⟨q,lK ..,Y⟩
  ·obtain⟨q',g1,g2⟩:=B9 h5 x I
   exact⟨q',mZ _ g1,g2⟩
def Is(hd: ∀a,MapKept.IsKey d (kv a)){h:Option κ}{es:List MapEntry}{os:List (Option Nat×Nat)}{m:List (κ×β)}(h4:tI hb kv w S h es os m)(g1:Instr.findNow d (kv k) es i=some none){x:MapEntry}(I:x∈es):x.key≠kv k:=by
 rcases MapKept.findNow_spec (hd k) es i (fun y hy=>by obtain⟨q,_,e⟩:=B9 h4 y hy;rw [e];exact hd _)with⟨_,J⟩|⟨j,e,J,_⟩
 ·exact J x I
 ·rw [g1]at J;cases J
def pE(hb:MV β)(kv:κ->Value)(b:Nat)(h:Option κ)(os:List (Option Nat×Nat))(m:List (κ×β)):OE where
 fp:=fun j=>j=b\/ ∃o∈os,o.1=some j
 p:=fun w S=>S b=none/\(∀o∈os,o.1≠some b)/\ ∃es clock,w.heap[b]? =some (.map es clock)/\tI hb kv w S h es.toList os m/\MapKept.Stamped es clock
 here:=by
  intro w S ⟨_,_,es,clock,Z,h4,_⟩ j hj
  rcases hj with rfl|⟨o,ho,hj⟩
  ·exact(vx.1 Z).1
  ·exact Ca h4 o ho j hj
 kept:=by
  intro C w w' S S' ⟨Y,J,es,clock,Z,h4,hst⟩ k hC
  have hlt:=(vx.1 Z).1
  exact⟨by rw [k.old b hlt (hC b (.inl rfl))];exact Y,J,es,clock,by rw [k.heap b hlt (hC b (.inl rfl))];exact Z,xb k h4 (fun o ho j hj=>hC j (.inr ⟨o,ho,hj⟩)),hst⟩
def oD(b:Nat):Value:= .map (some b)
end
section
variable{κ:Type} [DecidableEq κ]{hb:MV β}{kv:κ->Value}{os:List (Option Nat×Nat)}{m:List (κ×β)}{k:κ}{kt et:TypeId}{i v:Operand}{dst:Option Nat}{ty:TypeId}
def Cm(N:Fr)(G:jM)(x:Operand)(u:Value):Prop:= ∀S a,cP N S a G->a.eval x=u
def v6{N:Fr}{q:IntKind}{n:Int}(h:aE N G x (H (rI q) n)):Cm N G x (RW q n):=fun S a X=>eZ.1 (h S a X)
def ZV(P:Program)(hg:TypeId)(z:Value):Prop:=(P.info? hg).bind (·.zero)=some z
def ZV.run{z:Value}(h:ZV P hg z)(w:World):(zeroValue hg).run P w= .ok z w:=by
 unfold ZV at h
 cases hi:P.info? hg with
 |none=>rw [hi]at h;cases h
 |some i=>
  rw [hi]at h
  have h' :i.zero=some z:=h
  simp [zeroValue,typeInfo,hi,h']
def wk(hb:MV β)(kv:κ->Value)(hd:Nat.blt d E.N.n=true)(k: ∀b,RG E ops Q rest (pE hb kv b none [] []::O) ((d,tV (oD b))::G)):
  RG E ops Q (⟨some d,.makeMap t none,ty,pos,after,none⟩::rest) O G:= .of rfl fun a w S st=>by
 obtain⟨he,hs',hno⟩:=ij (w:=w) (.map #[] 0) st.sat
 have hrun:(execOp a.eval ⟨some d,.makeMap t none,ty,pos,after,none⟩).run E.P w= .ok (.value (oD w.heap.size)) (w.alloc (.map #[] 0)):=by
  simp [execOp,Instr.makeMap,oD]
 refine⟨fun c h=>(by cases h),?_⟩
 rw [hrun]
 exact k w.heap.size _ _ S ⟨st.ext.step0 he,hs',re st.own he ⟨hno,fun _ h=>(by cases h),#[],0,wu w _,trivial,MapKept.stamped_empty 0⟩ (fun b V=>by
  rcases V with rfl|⟨_,h,_⟩
  ·exact iQ _
  ·cases h) st.base_le,st.facts.put hd rfl⟩
def kZ{kk:Value}{es:Array MapEntry}{clock:Nat}{q:TypeDesc}{z:Value}{u:Option (Nat×Value)}(hm:P.underlying t=some (.map kt et))(hq:P.underlying kt=some q)(hk:MapKept.IsKey q kk)(V:w.heap[b]? =some (.map es clock))(hz:ZV P et z)(X:Instr.findNow q kk es.toList 0=some u)(c:Bool):(Instr.lookup t (oD b) kk c).run P w= .ok (if c then .tuple #[(u.map (·.2)).getD z,.bool u.isSome]else(u.map (·.2)).getD z) w:=by
 cases u with
 |none=>simp [Instr.lookup,oD,jD hm,GW V,GU hq hk,MapKept.run_findKey hq X,hz.run,Result.andThen]
 |some r=>simp [Instr.lookup,oD,jD hm,GW V,GU hq hk,MapKept.run_findKey hq X,Result.andThen]
def F8{γ:β->Ty}{z:β}{zv:Value}(hm:E.P.underlying t=some (.map kt et))(hk:A4 E.P kt kv)(hz:ZV E.P et zv)(hzt: ∀S,(γ z).p S zv)(hmem:pE (yI γ) kv b none os m∈O)(I:aE E.N G x (tV (oD b)))(hi:Cm E.N G i (kv k)):
  bR E O G ⟨dst,.lookup t x i false,ty,pos,after,g⟩ (γ ((nX m k).getD z)):= .of_pure fun a w S hs ho X=>by
 obtain⟨⟨_,_,es,clock,Z,h4,_⟩,_⟩:=cZ.mem ho _ hmem
 obtain⟨q,hq,hd,hinj⟩:=hk
 have Y:a.eval x=oD b:=I S a X
 have J:a.eval i=kv k:=hi S a X
 obtain⟨_,_,_,h5⟩:=oZ hd hinj (k:=k) 0 h4
 rcases h5 with⟨g1,g2⟩|⟨y,o,e,j,g1,g2,g3,g4,g5⟩
 ·refine⟨zv,by simp [execOp,Y,J,kZ hm hq (hd k) Z hz g2],by rw [g1];exact hzt S⟩
 ·refine⟨e.val,by simp [execOp,Y,J,kZ hm hq (hd k) Z hz g4],by rw [g1];exact g3.2⟩
def Ee{γ:β->Ty}{z:β}{zv:Value}(hm:E.P.underlying t=some (.map kt et))(hk:A4 E.P kt kv)(hz:ZV E.P et zv)(hzt: ∀S,(γ z).p S zv)(hmem:pE (yI γ) kv b none os m∈O)(I:aE E.N G x (tV (oD b)))(hi:Cm E.N G i (kv k)):
  bR E O G ⟨dst,.lookup t x i true,ty,pos,after,g⟩ (tT [γ ((nX m k).getD z),H rB (nX m k).isSome]):= .of_pure fun a w S hs ho X=>by
 obtain⟨⟨_,_,es,clock,Z,h4,_⟩,_⟩:=cZ.mem ho _ hmem
 obtain⟨q,hq,hd,hinj⟩:=hk
 have Y:a.eval x=oD b:=I S a X
 have J:a.eval i=kv k:=hi S a X
 obtain⟨_,_,_,h5⟩:=oZ hd hinj (k:=k) 0 h4
 rcases h5 with⟨g1,g2⟩|⟨y,o,e,j,g1,g2,g3,g4,g5⟩
 ·refine⟨.tuple #[zv,.bool false],by simp [execOp,Y,J,kZ hm hq (hd k) Z hz g2],[zv,.bool false],rfl,by rw [g1];exact hzt S,i8.2 (by rw [g1];rfl),trivial⟩
 ·refine⟨.tuple #[e.val,.bool true],by simp [execOp,Y,J,kZ hm hq (hd k) Z hz g4],[e.val,.bool true],rfl,by rw [g1];exact g3.2,i8.2 (by rw [g1];rfl),trivial⟩
def xF{kk:Value}{es:Array MapEntry}{clock:Nat}{q:TypeDesc}{val:Value}(hm:P.underlying t=some (.map kt et))(hq:P.underlying kt=some q)(hk:MapKept.IsKey q kk)(V:w.heap[b]? =some (.map es clock)):
  (Instr.findNow q kk es.toList 0=some none->(Instr.mapUpdate t (oD b) kk val).run P w= .ok () {w with heap:=w.heap.setIfInBounds b (.map (es.push ⟨kk,val,clock⟩) (clock+1))})/\
  (∀j e,Instr.findNow q kk es.toList 0=some (some (j,e))->(∀e',es.toList[j]? =some e' ->e'.key=kk)->(∃e',es.toList[j]? =some e')->(Instr.mapUpdate t (oD b) kk val).run P w= .ok () {w with heap:=w.heap.setIfInBounds b (.map (es.modify j fun e=>{e with key:=kk,val:=val}) clock)}):=by
 refine⟨fun X=>?_,fun j e X hj he=>?_⟩
 ·simp [Instr.mapUpdate,oD,jD hm,GW V,GU hq hk,MapKept.run_findKey hq X,MapKept.run_setObj_map _ V,Result.andThen]
 ·obtain⟨e',he'⟩:=he
  have Y:=hj e' he'
  have J:es[j]? =some e' :=by simpa using he'
  simp [Instr.mapUpdate,oD,jD hm,GW V,GU hq hk,MapKept.run_findKey hq X,MapKept.run_setObj_map _ V,Result.andThen,J,Y,MapKept.run_keyThatStays hk]
def BY{y:β}{o:Option Nat×Nat}{val:Value}(hs:jo w S)(hm:E.P.underlying t=some (.map kt et))(hk:A4 E.P kt kv)(hp:(pE hb kv b (some k) os m).p w S)(hv:hb.p w S y o val)(hob:o.1≠some b)(hap: ∀o' ∈os,∀j,o.1=some j->o'.1≠some j):
  ∃w' os',(Instr.mapUpdate t (oD b) (kv k) val).run E.P w= .ok () w' /\gH (fun j=>j=b) w S w' S/\jo w' S/\(pE hb kv b none os' (ez m k y)).p w' S/\(∀j,(pE hb kv b none os' (ez m k y)).fp j->(pE hb kv b (some k) os m).fp j\/o.1=some j):=by
 obtain⟨hno,hnb,es,clock,Z,h4,hst⟩:=hp
 obtain⟨q,hq,hdk,hinj⟩:=hk
 obtain⟨os',p1,p2⟩:=Cb hdk hinj (born:=clock) hv 0 h4 hap
 have hnb' : ∀o' ∈os',o'.1≠some b:=fun o' ho' =>by
  rcases p1 o' ho' with h|rfl
  ·exact hnb o' h
  ·exact hob
 have hfp: ∀j,(j=b\/ ∃o∈os',o.1=some j)->(j=b\/ ∃o∈os,o.1=some j)\/o.1=some j:=fun j hj=>by
  rcases hj with h|⟨o',ho',e⟩
  ·exact .inl (.inl h)
  ·rcases p1 o' ho' with h|rfl
   ·exact .inl (.inr ⟨o',h,e⟩)
   ·exact .inr e
 have hw: ∀hf:Obj,gH (fun j=>j=b) w S {w with heap:=w.heap.setIfInBounds b hf} S/\jo {w with heap:=w.heap.setIfInBounds b hf} S/\({w with heap:=w.heap.setIfInBounds b hf}:World).heap[b]? =some hf:=fun hf=>
  ⟨⟨rfl,rfl,rfl,iQ _,by simp,fun j _ hj=>(MapKept.heap_set (o' :=hf) Z).2 j hj,SH.le_refl _,fun _ _ _=>rfl⟩,hs.same fun j o hj=>(MapKept.heap_set (o' :=hf) Z).2 j (fun e=>by subst e;rw [hno]at hj;cases hj),(MapKept.heap_set Z).1⟩
 obtain⟨r1,r2⟩:=xF (val:=val) hm hq (hdk k) Z
 rcases p2 with⟨j,e,g1,g2,g3,g4⟩|⟨g1,g2⟩
 ·rw [pL]at g1
  obtain⟨x1,x2,x3⟩:=hw (.map (es.modify j fun e=>{e with key:=kv k,val:=val}) clock)
  refine⟨_,os',r2 j _ g1 (fun e' he' =>by rw [g2]at he';cases he';exact g3) ⟨_,g2⟩,x1,x2,⟨hno,hnb',_,_,x3,?_,MapKept.stamped_modify hst j _ (fun _ _=>rfl) (fun e' _ he' =>by rw [<-Array.getElem?_toList,g2]at he';cases he';exact g3.symm)⟩,hfp⟩;refine xb x1 (by rw [Array.toList_modify];exact g4) fun o' ho' j hj e=>?_
  subst e
  exact hnb' o' ho' hj
 ·obtain⟨x1,x2,x3⟩:=hw (.map (es.push ⟨kv k,val,clock⟩) (clock+1))
  refine⟨_,os',r1 g1,x1,x2,⟨hno,hnb',_,_,x3,?_,MapKept.stamped_push hst (fun x I e=>?_)⟩,hfp⟩
  rotate_left
  ·exact Is hdk h4 g1 I e
  refine xb x1 (by rw [Array.toList_push];exact g2) fun o' ho' j hj e=>?_
  subst e
  exact hnb' o' ho' hj
def Np{γ:β->Ty}{y:β}(hm:E.P.underlying t=some (.map kt et))(hk:A4 E.P kt kv)(I:aE E.N G x (tV (oD b)))(hi:Cm E.N G i (kv k))(hv:aE E.N G v (γ y))
  (h: ∀os',RG E ops Q rest (pE (yI γ) kv b none os' (ez m k y)::O) G):
  RG E ops Q (⟨none,.mapUpdate t x i v,ty,pos,after,none⟩::rest) (pE (yI γ) kv b none os m::O) G:= .of rfl fun a w S st=>by
 have Y:a.eval x=oD b:=I S a st.facts
 have J:a.eval i=kv k:=hi S a st.facts
 have Z:(γ y).p S (a.eval v):=hv S a st.facts
 obtain⟨⟨hp,hfp⟩,hap,hO⟩:=st.own
 obtain⟨hno,hnb,es,clock,e3,e4,hst⟩:=hp
 obtain⟨q,hq,hdk,hinj⟩:=hk
 obtain⟨os1,p1,p2,_⟩:=oZ hdk hinj (k:=k) 0 e4
 have hnb1: ∀o∈os1,o.1≠some b:=fun o ho=>by
  rcases p1 o ho with h|h
  ·exact hnb o h
  ·rw [h];exact fun e=>by cases e
 obtain⟨w',os',r,x1,x2,x3,x4⟩:=BY (hb:=yI γ) (E:=E) (y:=y) (o:=(none,0)) (val:=a.eval v) st.sat hm ⟨q,hq,hdk,hinj⟩ ⟨hno,hnb1,es,clock,e3,p2,hst⟩ ⟨rfl,Z⟩ (fun e=>by cases e) (fun _ _ _ e=>by cases e)
 have hrun:(execOp a.eval ⟨none,.mapUpdate t x i v,ty,pos,after,none⟩).run E.P w= .ok .skip w' :=by simp [execOp,Y,J,r]
 refine⟨fun c h=>(by cases h),?_⟩
 rw [hrun]
 have hfp' : ∀j,(pE (yI γ) kv b none os' (ez m k y)).fp j->(pE (yI γ) kv b none os m).fp j:=fun j hj=>by
  rcases x4 j hj with(h|⟨o,ho,e⟩)|e
  ·exact .inl h
  ·rcases p1 o ho with h|h
   ·exact .inr ⟨o,h,e⟩
   ·rw [h]at e;cases e
  ·cases e
 exact h os' _ _ S ⟨st.ext.step x1 (fun c hc=>hfp c (.inl hc)),x2,⟨⟨x3,fun j hj=>hfp j (hfp' j hj)⟩,fun f X j hj=>hap f X j (hfp' j hj),hO.ext x1 fun f X j hj hjb=>hap f X j (.inl hjb) hj⟩,st.facts⟩
end

def vP(tmps:Array Value):ResultVar->Sem Value
 | .tmp t=>pure (tmps.getD t undef)
 | .cell a t=>do loadVar t (<-asAddr (tmps.getD a undef))
def HC(P:Program)(N:Fr)(G:jM)(rv:ResultVar)(t:Ty):Prop:= ∀a w S,jo w S->cP N S a G-> ∃v,(vP a.tmps rv).run P w= .ok v w/\t.p S v
def aP{N:Fr}{k:Nat}{t:Ty}(hk:bJ G k=some t):HC P N G (.tmp k) t:=fun a w S _ X=>⟨_,rfl,X.at_ k t hk⟩
def bg{N:Fr}{k:Nat}{x:α}(ti:TI P hg sz bytes agg z)(hsz:r.sz=sz)(hag:r.agg=agg)(hk:bJ G k=some (bw r x)):HC P N G (.cell k hg) (H r x):=fun a w S hs X=>by
 obtain⟨b,off,c,U,fr,Y,J,Z⟩:=X.at_ k _ hk
 obtain⟨c',h4,h5⟩:=hs.part J (r.len Z)
 rw [<-h5]at Z
 have hl:=i9 ti h4 hsz hag Z
 have h1' :a.tmps[k]?.getD undef=Value.pointer (some ⟨b,off,none⟩):=by simpa [Dv] using Y
 exact⟨_,by simp [vP,h1',asAddr,hl],_,rfl,Z⟩
def IM(P:Program)(N:Fr)(G:jM):List ResultVar->List Ty->Prop
 |[],[]=>True
 |rv::rvs,t::ts=>HC P N G rv t/\IM P N G rvs ts
 |_,_=>False
def IM.run{N:Fr}(hs:jo w S)(X:cP N S a G): ∀{rvs:List ResultVar} {ts:List Ty},IM P N G rvs ts-> ∃vs,(rvs.mapM (vP a.tmps)).run P w= .ok vs w/\tM S ts vs/\vs.length=rvs.length
 |[],[],_=>⟨[],rfl,trivial,rfl⟩
 |rv::rvs,t::ts,⟨Y,J⟩=>by
  obtain⟨v,g1,g2⟩:=Y a w S hs X
  obtain⟨vs,k1,k2,k3⟩:=IM.run hs X J
  exact⟨v::vs,by simp [List.mapM_cons,g1,k1,Result.andThen],⟨g2,k2⟩,by simp [k3]⟩
def bH{rvs:List ResultVar}(hr:fn.results=rvs.toArray)(Y:Nat.beq rvs.length 1=false)(h:IM P ⟨N,[]⟩ G rvs ts):
  AT ⟨P,⟨N,[]⟩,B,w0,S0,none⟩ (bodyPost P fn (EV ⟨P,⟨N,[]⟩,B,w0,S0,none⟩ (tT ts))) .ret O G:=fun a w S st=>by
 obtain⟨vs,k1,k2,k3⟩:=h.run st.sat st.facts
 have hne: ¬vs.length=1:=by rw [k3];intro e;rw [e]at Y;cases Y
 refine⟨st.facts.defers,.tuple vs.toArray,?_,_,S,rfl,st.ext,st.sat,vs,rfl,k2⟩
 have e1:(fn.results.mapM (vP a.tmps)).run P w= .ok vs.toArray w:=by
  rw [hr,List.mapM_toArray,Sem.run_map,k1]
  rfl
 have e3:results fn a.tmps=((fn.results.mapM (vP a.tmps))>>=fun vs=>pure (if h:vs.size=1 then vs[0]else .tuple vs)):=rfl
 rw [e3,sP,e1]
 simp [Result.andThen,hne]

def Js{v:Value}(h:(H (gy r) xs).p S v):(gy r).rc S [v] xs:=by
 obtain⟨cs,e,J⟩:=h
 obtain⟨a,cap,e2,Z⟩:=J
 subst e2
 rw [e]
 exact⟨a,cap,rfl,Z⟩
section
variable{ty:TypeId}
def fq{r:Rp β}{get:β->Value}{x:β}{p:Operand}(ti:TI E.P U 1 bytes false z)(hget:mf r off rV get)(hm:bx r hg b x∈O)(hv:get x=aK l cap n)(hp:aE E.N G p (tV (ax b off))):
  bR E O G ⟨dst,.load U p,ty,pos,after,g⟩ (tV (aK l cap n)):=(bf (q:=rV) ti rfl rfl hget hm hp).imp fun _ _ h=>by rw [<-hv];exact(p6.1 h).1
def gW{q:Rp α}{r:Rp β}{get:β->Value}{x:β}{hb:TypeId}{p:Operand}(ti:TI E.P U 1 bytes false z)(hget:mf r off rV get)(hm:bx r hg b x∈O)(hm2:gT q hb l cap xs∈O)(hv:get x=aK l cap xs.length)(hp:aE E.N G p (tV (ax b off))):
  bR E O G ⟨dst,.load U p,ty,pos,after,g⟩ (tO q l cap xs):=fun a w S hs ho X=>
 mj (fun _ _ ⟨v,S',Y,J,Z,h4⟩=>⟨v,S',Y,J,Z,h4,by
  have h5:v=aK l cap xs.length:=h4
  rw [h5]
  exact pw (((ho.ext0 J).mem _ hm2).1)⟩) (fq (g:=g) (ty:=ty) (pos:=pos) (after:=after) (dst:=dst) ti hget hm hv hp a w S hs ho X)
def mP{o:Nat}{p:Operand}(X:cG E.P hg i=some (off,sz))(h0:Nat.beq sz 0=false)(hp:aE E.N G p (tV (ax b o)))(he:o+off=n):bR E O G ⟨dst,.fieldAddr hg p i,ty,pos,after,g⟩ (tV (ax b n)):=by
 subst he
 exact Bu X h0 hp
def iI{q:Rp α}{r:Rp β}{x:β}{p:Operand}(ti:TI E.P U sz bytes agg z)(hsz:q.sz=sz)(hag:q.agg=agg)(hag2:r.agg=agg)(hsz2:r.sz=sz)(hm:bx r hg b x∈O)(hc: ∀w S cs,cZ E.base E.B w S O->r.rc S cs x->q.rc S cs y)(hp:aE E.N G p (tV (ax b 0))):
  bR E O G ⟨dst,.load U p,ty,pos,after,g⟩ (H q y):= .of_pure fun a w S _ ho X=>by
 have Y:a.eval p=ax b 0:=hp S a X
 obtain⟨⟨_,cur,h5,h6⟩,_⟩:=ho.mem _ hm
 have h7:=hc w S _ ho h6
 have hl:=q.len h7
 have h8:q.rc S ((cur.toList.drop 0).take q.sz) y:=by rw [tQ,nE (by omega)];exact h7
 exact⟨_,by simp [execOp,Y,ax,Instr.loadAt,Instr.sureAddr,i9 ti h5 hsz hag h8],_,rfl,h8⟩
def jO{q:Rp α}{hb:TypeId}(ho:cZ base B w S O)(hm:gT q hb l cap xs∈O):(gy q).rc S [aK l cap xs.length] xs:=Js (pw (ho.mem _ hm).1)
end
def ov{α β γ:Type}(r:Rp α)(r' :Rp γ)(off:Nat)(q:Rp β)(x:α)(y:β)(x' :γ):Prop:= ∀S cs ds,r.rc S cs x->q.rc S ds y->r'.rc S (cs.take off++ds++cs.drop (off+q.sz)) x'
def pQ{set:α->β->α}{x:α}{y:β}(h:g9 r off q set):ov r r off q x y (set x y):=fun S cs ds Y J=>h S cs x ds y Y J
def iC{r' :Rp γ}{x:α}{y:γ}(hs:r.sz=r'.sz):ov r r' 0 r' x y y:=fun S cs ds Y J=>by
 have hl:=r.len Y
 rw [List.take_zero,iW,Bj (by omega),rD]
 exact J
def G5{α' :Type}{p:Rp α}{p' :Rp α'}{x:α×β}{y:γ}{x1:α'}(h:ov p p' 0 u x.1 y x1)(hu:Nat.ble u.sz p.sz=true):ov (cq p q) (cq p' q) 0 u x y (x1,x.2):=fun S cs ds ⟨a,b,e,Y,J⟩ hd=>by
 have hl:=p.len Y
 have hu' :=po hu
 have Z:=h S a ds Y hd
 subst e
 rw [List.take_zero,iW,pL,Dw (by omega),<-jr]
 rw [List.take_zero,iW,pL]at Z
 exact⟨_,_,rfl,Z,J⟩
def iM{β' :Type}{p:Rp α}{q' :Rp β'}{x:α×β}{y:γ}{off' :Nat}{x2:β'}(h:ov q q' off u x.2 y x2)(ho:off' =p.sz+off):ov (cq p q) (cq p q') off' u x y (x.1,x2):=fun S cs ds ⟨a,b,e,Y,J⟩ hd=>by
 have hl:=p.len Y
 have Z:=h S b ds J hd
 subst e ho
 refine⟨a,_,?_,Y,Z⟩
 have e1:p.sz+off-a.length=off:=by omega
 have e2:p.sz+off+u.sz-a.length=off+u.sz:=by omega
 rw [List.take_append,List.drop_append,nE (by omega),Bj (by omega),e1,e2]
 simp
def wB{α' β' :Type}{p:Rp α}{p' :Rp α'}{f:β->α}{f' :β' ->α'}{x:β}{x' :β'}{y:γ}{z:α'}(h:ov p p' off u (f x) y z)(e:f' x' =z):ov (nI p f) (nI p' f') off u x y x' :=fun S cs ds Y J=>by
 show p'.rc S _ (f' x')
 rw [e]
 exact h S cs ds Y J
section
variable{e:Exit}{ty:TypeId}
def d6{r' :Rp γ}{x:α}{x' :γ}{y:β}{p v:Operand}(ti:TI E.P U sz bytes agg z)(hsz:q.sz=sz)(hset:ov r r' off q x y x')(hoff:Nat.ble (off+q.sz) r.sz=true)(hp:aE E.N G p (tV (ax b off)))(hv:aE E.N G v (H q y))(k:RG E ops Q rest (bx r' hg b x' ::O) G):RG E ops Q (⟨none,.store U p v,ty,pos,after,none⟩::rest) (bx r hg b x::O) G:= .of rfl fun a w S st=>by
 have Y:a.eval p=ax b off:=hp S a st.facts
 obtain⟨ds,J,Z⟩:=hv S a st.facts
 obtain⟨⟨hno,cur,h5,h6⟩,_⟩:=st.own.1
 have hl:=r.len h6
 have hoff' :=po hoff
 obtain⟨w',hr,e1,e2,e3,e4,e5,e6⟩:=iG ti hsz Z h5 (off:=off) (by simp at hl;omega)
 have hrun:(execOp a.eval ⟨none,.store U p v,ty,pos,after,none⟩).run E.P w= .ok .skip w' :=by
  simp [execOp,Y,J,Instr.storeAt,ax,Instr.sureAddr,hr]
 refine⟨fun c h=>(by cases h),?_⟩
 rw [hrun]
 obtain⟨g1,g2,g3⟩:=nt (O:=O) st.sat (bx r hg b x) (bx r' hg b x') st.own (fun _=>sd) (fun _=>sd) ⟨e1,e2,e3,e4.1,e4.2⟩ e6 ⟨hno,_,e5,by simpa using hset S _ _ h6 Z⟩ hno
 exact k _ _ S ⟨st.ext.step g1 (fun c hc=>st.own.1.2 c hc),g2,g3,st.facts⟩
end

section
variable{b:Frame}{k:List Item}{cs:List Frame}{F:Fence}
def nq:step P (lone (b.atR a (.code (.scope c)::k)) cs w)= .next (lone (b.atR a (.code c:: .inScope c::k)) cs w):=
 step_lone_go (by simp [stepG,stepG.exec,Frame.atR])
def Bo:step P (lone (b.atR a (.inScope c::k)) cs w)= .next (lone (b.atR a k) cs w):=
 step_lone_go (by simp [stepG,stepG.exec,Frame.atR])
def Fx(h:c.wpIn F n P (Exit.noGoto Q) a w):(Code.scope c).wpIn F n P Q a w:=by
 intro b k cs hro V hr
 have h0:(lone (b.atR a (.code (.scope c)::k)) cs w).fenced P F:=fenced_calm V hr rfl
 obtain⟨e,a₁,w₁,hq,harr⟩:=h b (.inScope c::k) cs hro V hr
 cases e with
 |normal=>exact⟨.normal,a₁,w₁,hq,.head h0 nq (StepsIn.trans harr (.one (fenced_calm V hr rfl) Bo))⟩
 |exit id=>
  have I:exitTo id (.inScope c::k)=exitTo id k:=by simp [exitTo]
  exact⟨.exit id,a₁,w₁,hq,fun k' hk=> .head h0 nq (harr.1 k' (by rw [I];exact hk)),
   fun hr' hk=>let⟨k₁,Y,J⟩:=harr.2 hr' (by rw [I];exact hk);⟨k₁,Y,.head h0 nq J⟩⟩
 |goto l=>exact hq.elim
 |ret=>exact⟨_,a₁,w₁,hq,.of_steps (.one h0 nq) harr⟩
 |panic ch=>exact⟨_,a₁,w₁,hq,.of_steps (.one h0 nq) harr⟩
 |outgrown=>exact⟨_,a₁,w₁,hq,.of_steps (.one h0 nq) harr⟩
end
section
def A6(h:CG E (Exit.noGoto Q) c O G):CG E Q (.scope c) O G:=fun a w S st=>Fx (h a w S st)
def A7{l:Nat}(h:AT E Q .normal O G):CG E Q (.label l) O G:=fun a w S st=>wpIn_label (h a w S st)
def qo(h:AT E Q .ret O G):AT E (Exit.noGoto Q) .ret O G:=h
end

def CY [Inhabited α](h:i<m):mf (nK r m) (i*r.sz) r (fun x=>(x[i]?).getD default):=fun S cs x ⟨Y,J⟩=>by
 have hi:x[i]? =some ((x[i]?).getD default):=by rw [qY (by omega)];rfl
 exact s0 J hi
def MU [DecidableEq α] [Inhabited α]{t e:Nat}(D:P.underlying t=some (.array m e))(ti:TI P e sz bytes agg z)(hsz:r.sz=sz)(hag:r.agg=agg)(he:lH P e r n):lH P t (nK r m) (n+1):=fun S cs ds x y d w I hy=>by
 obtain⟨i,zv,hi,hs,_⟩:=ti.get
 have hcell:P.cellsOf e=r.sz:=by unfold Program.cellsOf;rw [hi];simp [hs,hsz]
 have e1:(nK r m).val cs= .agg cs.toArray:=rfl
 have e2:(nK r m).val ds= .agg ds.toArray:=rfl
 rw [e1,e2,show d+(n+1)=(d+n)+1 from rfl,run_equalIn_array w (d+n) cs.toArray ds.toArray D hi,List.range_eq_range',hcell]
 have key: ∀k j,j+k=m->(Op.eqItems (d+n) e r.sz cs.toArray ds.toArray (List.range' j k)).run P w= .ok (decide (x.drop j=y.drop j)) w:=by
  intro k
  induction k with
  |zero=>
   intro j hj
   rw [Bj (by have:=I.1;omega),Bj (by have:=hy.1;omega)]
   rfl
  |succ k ih=>
   intro j hj
   have hjx:j<x.length:=by have:=I.1;omega
   have hjy:j<y.length:=by have:=hy.1;omega
   have Y:=p9 ti hsz hag (CY (r:=r) (m:=m) (i:=j) (by omega)) I w
   have J:=p9 ti hsz hag (CY (r:=r) (m:=m) (i:=j) (by omega)) hy w
   have Z:=he S _ _ _ _ d w (CY (r:=r) (m:=m) (i:=j) (by omega) S cs x I) (CY (r:=r) (m:=m) (i:=j) (by omega) S ds y hy)
   rw [List.range'_succ]
   unfold Op.eqItems
   simp only [sP,Y,J,Z,tS]
   have ex:x.drop j=(x[j]?).getD default::x.drop (j+1):=by rw [qY hjx];exact xu hjx
   have ey:y.drop j=(y[j]?).getD default::y.drop (j+1):=by rw [qY hjy];exact xu hjy
   rw [ex,ey]
   by_cases hq:(x[j]?).getD default=(y[j]?).getD default
   ·simp only [hq,decide_true,nC,kP,iB]
    rw [ih (j+1) (by omega)]
    congr 1
    simp
   ·simp [hq]
 have:=key m 0 (by omega)
 simpa using this
section
variable{ty:TypeId}
def uP{xs:List Operand}{sz' bytes' :Nat}{agg' :Bool}{z' :List Value}(D:E.P.underlying t=some (.array m hg))(ti:TI E.P hg sz bytes agg z)(hsz:r.sz=sz)(tj:TI E.P t sz' bytes' agg' z')(hz:z'.length=m*r.sz)(hm:m=ys.length)(I:hG E.N G xs (ys.map (H r))):bR E O G ⟨dst,.build t (vn 0 xs).toArray,ty,pos,after,g⟩ (H (nK r m) ys):=
 .of_pure fun a w S _ _ hF=>by
  obtain⟨zv,hzr,hzc⟩:=tj.zero w
  obtain⟨cs,hc,hfill⟩:=AC ys (xs.map a.eval) 0 [] z' (I.tys hF) (by simp) (by rw [hz,hm])
  subst hsz
  have hparts:((vn 0 xs).toArray.map fun(i,x)=>(i,a.eval x)).toList=yQ 0 (xs.map a.eval):=by simpa using xZ a.eval 0 xs
  rw [iW,iW]at hfill
  refine⟨.agg cs.toArray,?_,cs,rfl,hm.symm,hc⟩
  simp only [execOp,Instr.build,sP,hzr,tS,jD D,ti.sizeOf,hzc,hparts,hfill]
  simp
end
end Go.Proofs.YtbmmihfagmchaaaGreat

