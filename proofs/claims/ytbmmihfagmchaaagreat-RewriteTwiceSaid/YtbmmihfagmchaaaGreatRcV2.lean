/- cW of this claim: W16, W17, W18, W19, W20, W22, W23, W24, W25, W26, W28, W30, W31, W32. -/
import Derived.Test.YtbmmihfagmchaaaGreatRcV1
import Derived.RangeFuncRecord
import Derived.RangeFuncLeaves
import Derived.Laws.StructEq
import Derived.Lib.ConvBytes
import Derived.Lib.AppendZeros
import Derived.Laws.MakeOwn
import Derived.MapKept
import Derived.Scope
import Derived.ChangeKeysEq
set_option linter.all false
namespace Go.Proofs.YtbmmihfagmchaaaGreat
open Go

def lK(L:List Oper):Nat->Nat->Nat->Bool
 |0,_,_=>false
 |n+1,i,j=>match L[i]? with
  |some o=>o.after.toList.any fun e=>Region.binds .any e&&(Nat.beq e.on j||lK L n e.on j)
  |none=>false
def tt(L:List Oper)(m:Nat):Bool:=(List.range m).all fun j=>lK L L.length m j
def vx(L:List Oper)(n k:Nat):Bool:=(List.range k).all fun m=>tt L (n+m)&&(match L[n+m]? with|some o=>dF (n+m) o&&o.guard.isNone|none=>false)
variable{L:List Oper}{done:Array Bool}{e:TypeId}{hi:Int}{i:Nat}{j:Int}{n:Nat}{o:Oper}
def fH{L:List Oper}{done:Array Bool}(down: ∀j o,L[j]? =some o->done.getD j false=true-> ∀e∈o.after,Region.binds .any e=true->done.getD e.on false=true):
  ∀(n i j:Nat),(∀o,L[i]? =some o-> ∀e∈o.after,Region.binds .any e=true->done.getD e.on false=true)->lK L n i j=true->done.getD j false=true
 |0,_,_,_,h=>by cases h
 |n+1,i,j,hi,h=>by
  unfold lK at h
  cases ho:L[i]? with
  |none=>rw [ho]at h;cases h
  |some o=>
   rw [ho]at h
   obtain⟨e,he0,V⟩:=vJ.1 h
   have he:e∈o.after:=by simpa using he0
   rw [jX,wB]at V
   have hd:=hi o ho e he V.1
   rcases V.2 with Y|Y
   ·rw [<-nL Y];exact hd
   ·exact fH down n e.on j (fun p hp=>down e.on p hp hd) Y
variable{E:En}{G:jZ}{O:List OE}{S S' :SH}{a:Act}{d:Nat}{k:IntKind}{l:Option Nat}{t:TypeId}{ts:List Ty}{γ:Type}{u:Rp γ}{w w' :World}
def DJ.stepT{l:List Oper}(h:DJ E O G l ts done a w S){t:Ty}{v:Value}(hi:l[i]? =some o)(hd:o.dst=some d)(hdN:d<E.N.n)(hs2: ∀j p,l[j]? =some p->done.getD j false=true->p.dst=some d->i=j)(hwait: ∀e∈o.after,Region.binds .any e=true->done.getD e.on false=true)(D:ts[i]? =some t)(hun:done.getD i true=false)(hext:gU oW w S w' S')(hsat:jA w' S')(hv:t.p S' v):DJ E O G l ts (done.setIfInBounds i true) (a.put o.dst v) w' S' :=by
 have hda:d<a.tmps.size:=by rw [h.size];exact hdN
 have hlt:i<done.size:=by rw [h.dsz];exact(qr.1 hi).1
 have hset: ∀j,(done.setIfInBounds i true).getD j false=true->j=i\/done.getD j false=true:=fun j hj=>by
  by_cases hij:i=j
  ·exact .inl hij.symm
  ·rw [sv false hij]at hj;exact .inr hj
 have hseti:(done.setIfInBounds i true).getD i false=true:=by simp [hlt]
 have hun' :done.getD i false=false:=by simp [hlt]at hun ⊢;exact hun
 refine⟨h.ext.step0 hext,hsat,h.own.ext0 hext,?_,?_,by simp [h.dsz],fun j p hj hdone e he V=>?_,fun k u hk hno=>?_,fun j p d' u hj hdone hd' hu=>?_⟩
 ·rw [hd];simp [Act.put,h.size]
 ·rw [hd];exact h.defers
 ·rcases hset j hdone with rfl|hj'
  ·rw [hi]at hj
   have:o=p:=by simpa using hj
   subst this
   exact sX (hwait e he V)
  ·exact sX (h.down j p hj hj' e he V)
 ·have hne:d≠k:=fun e=>hno i o hi hseti (by rw [hd,e])
  rw [hd,pl hda,bn hne]
  exact u.mono hext.keep (h.old k u hk fun j p hj hdone=>hno j p hj (sX hdone))
 ·rw [hd,pl hda]
  rcases hset j hdone with rfl|hj'
  ·rw [hi]at hj
   have:o=p:=by simpa using hj
   subst this
   rw [hd]at hd'
   have:d=d' :=by simpa using hd'
   subst this
   rw [bE rfl]
   rw [D]at hu
   have:t=u:=by simpa using hu
   subst this
   exact hv
  ·have hne:d≠d' :=fun e=>by
    subst e
    have:=hs2 j p hj hj' hd'
    subst this
    rw [hj']at hun';cases hun'
   rw [bn hne]
   exact u.mono hext.keep (h.new j p d' u hj hj' hd' hu)
def mD(h:i<done.size):done.getD i true=done.getD i false:=by simp [h]
def rl(h:jP done=0)(hi:i<done.size):done.getD i false=true:=by
 unfold jP at h
 rw [List.countP_eq_zero]at h
 have J:done[i]∈done.toList:=by simp
 have:=h _ J
 rw [<-mD hi]
 simpa [hi] using this
variable{P:Program}{Q:Exit->Act->World->Prop}{f:FuncId}{α β:Type}{m:Nat}{q:Rp β}{r:Rp α}{rest:List Oper}{xs:List α}
def vQ{r:Option Nat}(hc: ∀m o,n<=m->L[m]? =some o->tt L m=true)(hedge: ∀m o,L[m]? =some o->dF m o=true):
  ∀(rest:List Oper) (m:Nat) (done:Array Bool) (fuel:Nat) (a:Act) (w:World),n<=m->L.drop m=rest->done.size=L.length->(∀j,j<L.length->(done.getD j false=true↔j<m))->jP done=fuel->
   wpListIn (fw r) 0 P L.toArray Q rest a w->wpAnyIn (fw r) 0 P .any L.toArray Q fuel done a w:=by
 intro rest
 induction rest with
 |nil=>
  intro m done fuel a w hnm hdrop hsz hdone hu h
  have hlen:L.length<=m:=Bp.1 hdrop
  have hr:Region.ready .any L.toArray done=[]:=by
   cases hr:Region.ready .any L.toArray done with
   |nil=>rfl
   |cons i r=>
    have hm:i∈Region.ready .any L.toArray done:=by rw [hr];exact mp ..
    obtain⟨hun,o,ho,_⟩:=qD.1 hm
    have hi:i<L.length:=by simpa using (vL.1 ho).1
    have:=(hdone i hi).2 (by omega)
    rw [mD (by omega)]at hun
    rw [hun]at this;cases this
  cases fuel with
  |zero=>exact⟨hr,h⟩
  |succ f=>exact⟨fun _=>h,fun i hi=>by rw [hr]at hi;cases hi⟩
 |cons o rest ih=>
  intro m done fuel a w hnm hdrop hsz hdone hu h
  have hm:m<L.length:=by
   rcases lz m L.length with h' |h'
   ·exact h'
   ·rw [Bp.2 h']at hdrop;cases hdrop
  have hLm:L[m]? =some o:=by
   have:=ue (xs:=L) (i:=m) (j:=0)
   rw [hdrop]at this
   simpa using this.symm
  have hmu:done.getD m true=false:=by
   have hnot: ¬(done.getD m false=true):=fun J=>by have:=(hdone m hm).1 J;omega
   rw [mD (by omega)]
   exact wC _▸hnot
  have honly: ∀i∈Region.ready .any L.toArray done,i=m:=by
   intro i hi
   obtain⟨hun,p,hp,hwait⟩:=qD.1 hi
   have hp' :L[i]? =some p:=by simpa using hp
   have hil:i<L.length:=(qr.1 hp').1
   have hid: ¬i<m:=fun hlt=>by
    have J:=(hdone i hil).2 hlt
    rw [mD (by omega)]at hun
    rw [hun]at J;cases J
   rcases lz m i with hlt|hge
   ·exfalso
    have hcov:=hc i p (by omega) hp'
    unfold tt at hcov
    have hre:=jV.1 hcov m (by simpa using hlt)
    have:done.getD m false=true:=by
     refine fH (L:=L) (done:=done) (fun j q hj hjd e he V=>?_) _ i m (fun q hq e he V=>?_) hre
     ·have hjl:j<L.length:=(qr.1 hj).1
      have hjm:=(hdone j hjl).1 hjd
      have:=hedge j q hj
      unfold dF at this
      have:=jV.1 this e (by simpa using he)
      simp only [V,mq,ug,tM]at this
      exact(hdone e.on (by omega)).2 (by omega)
     ·have:q=p:=by rw [hp']at hq;simpa using hq.symm
      subst this
      exact hwait e he V
    have:=(hdone m hm).1 this
    omega
   ·omega
  have hready:m∈Region.ready .any L.toArray done:=by
   rw [qD]
   refine⟨hmu,o,by simpa using hLm,fun e he V=>?_⟩
   have:=hedge m o hLm
   unfold dF at this
   have:=jV.1 this e (by simpa using he)
   simp only [V,mq,ug,tM]at this
   exact(hdone e.on (by omega)).2 this
  cases fuel with
  |zero=>
   have:=rl hu (i:=m) (by omega)
   have:=(hdone m hm).1 this
   omega
  |succ fuel=>
   refine⟨fun hr=>(by rw [hr]at hready;cases hready),fun i hi=>?_⟩
   have:=honly i hi
   subst this
   have hnext:=fun a w=>ih (i+1) (done.setIfInBounds i true) fuel a w (by omega) (by rw [<-p8,hdrop];rfl) (by simpa using hsz) (fun j hj=>by
    by_cases hij:i=j
    ·subst hij;have:i<done.size:=by omega
     simp [this]
    ·rw [sv false hij,hdone j hj];omega) (by have:=oN hmu;omega)
   unfold wpOpIn
   have hLm' :L.toArray[i]? =some o:=by simpa using hLm
   rw [hLm']
   show if _ then _ else _
   unfold wpListIn at h
   by_cases hw:Region.wanted o (yielded L.toArray a.tmps)=true
   ·rw [bE hw]at h ⊢;exact Oper.wpIn_mono (fun a w hk=>hnext a w hk) h
   ·rw [bn hw]at h ⊢;exact⟨h.1,hnext _ _ h.2⟩
def DL{l t:List Oper}(hsl:s3 E.N.n [] l=true)(hlen:ts.length=l.length)(hd:DR E O G (l++t) ts 0 l)(D:vx (l++t) l.length t.length=true)(hQ: ∀a w S,St E O (F7 l ts G) a w S->wpListIn (fw E.r) 0 E.P (l++t).toArray Q t a w):
  ∀(fuel:Nat) (done:Array Bool) (a:Act) (w:World) (S:SH),jP done=fuel->(∀j,l.length<=j->done.getD j false=false)->DJ E O G (l++t) ts done a w S->wpAnyIn (fw E.r) 0 E.P .any (l++t).toArray Q fuel done a w:=by
 have hL1: ∀i o,i<l.length->(l++t)[i]? =some o->l[i]? =some o:=fun i o hi h=>by rwa [vi hi]at h
 have hL2: ∀i o,l[i]? =some o->(l++t)[i]? =some o:=fun i o h=>by rw [vi (qr.1 h).1];exact h
 have htail: ∀m o,l.length<=m->(l++t)[m]? =some o->tt (l++t) m=true/\dF m o=true:=fun m o hm ho=>by
  have hml:m<(l++t).length:=(qr.1 ho).1
  rw [jO]at hml
  unfold vx at D
  have:=jV.1 D (m-l.length) (by simp;omega)
  rw [show l.length+(m-l.length)=m from by omega,ho]at this
  simp only [jX]at this
  exact⟨this.1,this.2.1⟩
 have hedge: ∀i o,(l++t)[i]? =some o->dF i o=true:=fun i o hi=>by
  rcases lz i l.length with h|h
  ·obtain⟨_,_,_,_,_,h,_⟩:=DR.get l 0 hd i o (hL1 i o h hi)
   simpa using h
  ·exact(htail i o h hi).2
 obtain⟨hs1,hs2⟩:=uk l [] hsl
 have fin: ∀fuel done a w S,jP done=fuel->(∀j,l.length<=j->done.getD j false=false)->DJ E O G (l++t) ts done a w S->(∀i,i<l.length->done.getD i false=true)->wpAnyIn (fw E.r) 0 E.P .any (l++t).toArray Q fuel done a w:=by
  intro fuel done a w S hu hfree h hall
  refine vQ (n:=l.length) (fun m o hm ho=>(htail m o hm ho).1) hedge t l.length done fuel a w (dr _) (by simp) h.dsz (fun j hj=>⟨fun hjd=>?_,fun hlt=>hall j hlt⟩) hu
   (hQ a w S ⟨h.ext,h.sat,h.own,h.size,h.defers,fun j u hj=>?_⟩)
  ·rcases lz j l.length with h' |h'
   ·exact h'
   ·rw [hfree j h']at hjd;cases hjd
  ·rcases B8 l ts j u (fun o ho e=>by obtain⟨d,hd,_⟩:=hs1 o ho;rw [hd]at e;cases e) hlen hj with⟨i,o,Y,J,Z⟩|⟨Y,J⟩
   ·exact h.new i o j u (hL2 i o Y) (hall i (qr.1 Y).1) J Z
   ·refine h.old j u Y fun i o ho hdn=>?_
    rcases lz i l.length with h' |h'
    ·exact J o (sm (hL1 i o h' ho))
    ·rw [hfree i h']at hdn;cases hdn
 have lower: ∀done a w S i,(∀j,l.length<=j->done.getD j false=false)->DJ E O G (l++t) ts done a w S->i∈Region.ready .any (l++t).toArray done->l.length<=i-> ∀j,j<l.length->done.getD j false=true:=by
  intro done a w S i hfree h hi hge j hj
  obtain⟨hun,p,hp,hwait⟩:=qD.1 hi
  have hp' :(l++t)[i]? =some p:=by simpa using hp
  have hcov:=(htail i p hge hp').1
  unfold tt at hcov
  have hre:=jV.1 hcov j (by simp;omega)
  exact fH h.down _ i j (fun q hq e he V=>by
   have:q=p:=by rw [hp']at hq;simpa using hq.symm
   subst this
   exact hwait e he V) hre
 intro fuel
 induction fuel with
 |zero=>
  intro done a w S hu hfree h
  exact fin 0 done a w S hu hfree h fun i hi=>rl hu (by rw [h.dsz,jO];omega)
 |succ fuel ih=>
  intro done a w S hu hfree h
  by_cases hall: ∀i,i<l.length->done.getD i false=true
  ·exact fin _ done a w S hu hfree h hall
  have hready0: ∀m i,i<m->i<l.length->Region.ready .any (l++t).toArray done=[]->done.getD i false=true:=by
   intro m
   induction m with
   |zero=>intro i h;omega
   |succ m ihm=>
    intro i him hil hr
    have his:i<done.size:=by rw [h.dsz,jO];omega
    by_cases hdn:done.getD i true=true
    ·rw [<-mD his];exact hdn
    ·exfalso
     obtain⟨o,ho⟩: ∃o,(l++t)[i]? =some o:=⟨l[i],hL2 i _ (rg hil)⟩
     have hmem:i∈Region.ready .any (l++t).toArray done:=by
      rw [qD]
      refine⟨by simpa using hdn,o,by simpa using ho,fun e he V=>?_⟩
      have:=hedge i o ho
      unfold dF at this
      have:=jV.1 this e (by simpa using he)
      simp only [V,mq,ug,tM]at this
      exact ihm e.on (by omega) (by omega) hr
     rw [hr]at hmem;cases hmem
  refine⟨fun hr=>absurd (fun i hi=>hready0 (i+1) i (by omega) hi hr) hall,fun i hi=>?_⟩
  have hil:i<l.length:=by
   rcases lz i l.length with h' |h'
   ·exact h'
   ·exact absurd (lower done a w S i hfree h hi h') hall
  obtain⟨hun,o,ho,hwait⟩:=qD.1 hi
  have ho' :(l++t)[i]? =some o:=by simpa using ho
  have hol:=hL1 i o hil ho'
  obtain⟨needs,u,Y,J,Z,_,h5⟩:=DR.get l 0 hd i o hol
  rw [pS]at Y Z
  have hF:=h.need ho' hun hwait J Z
  have h6:=h5 a w S h.sat h.own hF
  have hu' :jP (done.setIfInBounds i true)=fuel:=by have:=oN hun;omega
  obtain⟨d,hdd,hdN,_⟩:=hs1 o (sm hol)
  have huq: ∀j p,(l++t)[j]? =some p->done.getD j false=true->p.dst=some d->i=j:=fun j p hj hjd hpd=>by
   rcases lz j l.length with h' |h'
   ·exact hs2 i j o p hol (hL1 j p h' hj) (by rw [hdd,hpd])
   ·rw [hfree j h']at hjd;cases hjd
  have hfree' : ∀j,l.length<=j->(done.setIfInBounds i true).getD j false=false:=fun j hj=>by
   rw [sv false (by omega)];exact hfree j hj
  unfold wpOpIn
  rw [ho]
  show if _ then _ else _
  by_cases hw:Region.wanted o (yielded (l++t).toArray a.tmps)=true
  ·rw [bE hw]at h6 ⊢
   refine jD (fun a' w' ⟨v,S',ha,he,hs,hv⟩=>?_) h6
   subst ha
   exact ih _ _ _ S' hu' hfree' (h.stepT ho' hdd hdN huq hwait Y hun he hs hv)
  ·rw [bn hw]at h6 ⊢
   exact⟨fun _ _=>trivial,ih _ _ _ S hu' hfree' (h.stepT ho' hdd hdN huq hwait Y hun (gU.refl _ _ _) h.sat h6)⟩
def Ld{id:Nat}{l t:List Oper}(hL:L=l++t)(hm:E.P.follows .mixedOrders=true)(hsl:s3 E.N.n [] l=true)(hlen:ts.length=l.length)(D:vx L l.length t.length=true)(hd:DR E O G L ts 0 l)(k:RG E L.toArray Q t O (F7 l ts G)):CG E Q (.region id L.toArray true) O G:=fun a w S st=>by
 subst hL
 refine wpIn_region_any hm ?_
 obtain⟨he,hs⟩:=uP (w:=w) st.sat
 refine DL hsl hlen hd D (fun a w S st=>k a w S st) _ _ _ _ S ?_ (fun j _=>?_)
  ⟨st.ext.step0 he,hs,st.own.ext0 he,st.facts.size,st.facts.defers,by simp,fun j o hj hdone=>?_,fun k t hk _=>st.facts.at_ k t hk,fun j o d t hj hdone=>?_⟩
 ·unfold jP;rw [G3,G1];simp
 ·simp [vK];split<;>rfl
 ·simp [vK]at hdone
  split at hdone<;>simp at hdone
 ·simp [vK]at hdone
  split at hdone<;>simp at hdone

abbrev It(α:Type):=(σ:Type)->(α->σ->Option (Bool×σ))->σ->Option σ

def vy(Se:SH)(O:List OE):OE where
 fp:=fun k=> ∃f∈O,f.fp k
 p:=fun w S=>SH.le Se S/\dg 0 oW w S O
 here:=fun⟨_,h⟩ _ ⟨f,X,hk⟩=>f.here (dg.mem h f X).1 _ hk
 kept:=fun⟨Y,J⟩ k hC=>⟨SH.le_trans Y k.keep,J.ext k fun f X b V=>hC b ⟨f,X,V⟩⟩
variable{B:Nat->Prop}{base:Nat}
def dg.weak: ∀{O:List OE},dg base B w S O->dg 0 oW w S O
 |[],_=>trivial
 |_::_,⟨Y,J,Z⟩=>⟨⟨Y.1,fun _ _=> .inl (mJ _)⟩,J,dg.weak Z⟩
def mI: ∀{O:List OE},dg 0 oW w S O->(∀f∈O,∀k,f.fp k->base<=k\/B k)->dg base B w S O
 |[],_,_=>trivial
 |_::_,⟨Y,J,Z⟩,h=>⟨⟨Y.1,h _ (mp ..)⟩,J,mI Z fun f X=>h f (nu _ X)⟩
def GD(b:Nat):OE where
 fp:=fun k=>k=b
 p:=fun w S=>S b=none/\w.heap[b]? =some (.deferred (some []))
 here:=by
  intro w S h k hk
  subst hk
  exact(vL.1 h.2).1
 kept:=by
  intro C w w' S S' h k hC
  have hlt:=(vL.1 h.2).1
  exact⟨by rw [k.old b hlt (hC b rfl)];exact h.1,by rw [k.heap b hlt (hC b rfl)];exact h.2⟩
def yK(b:Nat):Deferred:={target:= .collected b,args:= #[]}

def RO(P:Program){α σ:Type}(args:α->List Ty)(y:α->σ->Option (Bool×σ))(hx:σ->OE->Prop)(yv:Value):Prop:=
 ∃l,yv= .func (.yield l) #[] #[]/\ ∀x s r,y x s=some r-> ∀e,hx s e-> ∀w S vs,jA w S->e.p w S->tX S (args x) vs->
  ∃f tmps assign body,(Instr.yield l vs.toArray).run P w= .ok (.round l f tmps assign body) w/\
   RoundIn (fw none) 0 P l f tmps assign body w fun en w' => ∃e' S',en= .returned (.bool r.1)/\hx r.2 e' /\gU e.fp w S w' S' /\jA w' S' /\e'.p w' S' /\ ∀k,e'.fp k->e.fp k\/w.heap.size<=k
variable{after:Array Edge}{ats:Array TypeId}{b:Nat}{c:Code}{ops:Array Oper}{pos:String}{x:Operand}{y:α}
section
variable{ty:TypeId}
def JH{e e' :OE}{O:List OE}(h:dg base B w S (e::O))(k:gU e.fp w S w' S')(hp:e'.p w' S')(hn: ∀b,e'.fp b->e.fp b\/w.heap.size<=b)(V:base<=w.heap.size):dg base B w' S' (e' ::O):=
 ⟨⟨hp,fun b hb' =>(hn b hb').elim (fun J=>h.1.2 b J) (fun J=> .inl (by omega))⟩,fun f X b hb' hfb=>(hn b hb').elim (fun J=>h.2.1 f X b J hfb) (fun J=>by
  have:=f.here (dg.mem h.2.2 f X).1 b hfb
  omega),h.2.2.ext k fun f X b hb' J=>h.2.1 f X b J hb'⟩
def K4{σ:Type}{args:α->List Ty}{y:α->σ->Option (Bool×σ)}{hx:σ->OE->Prop}{yv:Value}{x:α}{s:σ}{r:Bool×σ}{e:OE}{fo:Operand}{xs:List Operand}(hy:RO E.P args y hx yv)(he:hx s e)(hq:y x s=some r)(X:aF E.N G fo (tV yv))(I:il E.N G xs (args x))(hd:Nat.blt d E.N.n=true)(k: ∀e',hx r.2 e' ->RG E ops Q rest (e' ::O) ((d,H rB r.1)::G)):RG E ops Q (⟨some d,.call ⟨.value fo,xs.toArray,ats⟩,ty,pos,after,none⟩::rest) (e::O) G:= .of rfl fun a w S st=>by
 obtain⟨l,rfl,hyl⟩:=hy
 have Y:a.eval fo= .func (.yield l) #[] #[]:=X S a st.facts
 obtain⟨f,tmps,assign,body,J,Z⟩:=hyl x s r hq e he w S _ st.sat st.own.1.1 (I.tys st.facts)
 have hr:(execOp a.eval ⟨some d,.call ⟨.value fo,xs.toArray,ats⟩,ty,pos,after,none⟩).run E.P w= .ok (.round l f tmps assign body) w:=by
  simp [execOp,resolve,Y,Deferred.ofValue,invoke]
  simpa using J
 refine⟨fun c h=>(by cases h),?_⟩
 rw [hr]
 refine Z.mono fun en w' ⟨e',S',h4,h5,h6,h7,h8,h9⟩=>⟨_,h4,?_⟩;exact k e' h5 _ _ S' ⟨st.ext.step h6 (fun b V=>st.own.1.2 b V),h7,JH st.own h6 h8 h9 st.base_le,(st.facts.mono h6.keep).put hd (iC.2 rfl)⟩
end
def Ht:List OE->List OE->Prop
 |[],_=>True
 |f::O,g::O' =>(∀k,f.fp k->g.fp k)/\Ht O O'
 |_::_,[]=>False
variable{g:Option (Nat×Bool)}
def Ht.mem: ∀{O O' :List OE},Ht O O' -> ∀k,(∃f∈O,f.fp k)-> ∃f∈O',f.fp k
 |f::O,g::O',⟨Y,J⟩,k,⟨q,hq,hk⟩=>by
  rcases gB.1 hq with e|e
  ·subst e;exact⟨g,mp ..,Y k hk⟩
  ·obtain⟨q',Z,h4⟩:=Ht.mem J k ⟨q,e,hk⟩
   exact⟨q',nu _ Z,h4⟩

variable{O1:List OE}{ι:Type}{O2:ι->List OE}
def mH: ∀{O1 O2:List OE},dg base B w S (O1++O2)->dg base B w S O1/\dg base B w S O2/\ ∀e∈O1,∀f∈O2,e.apart f
 |[],_,h=>⟨trivial,h,fun _ h=>(by cases h)⟩
 |e::O1,O2,⟨Y,J,Z⟩=>by
  obtain⟨k1,k2,k3⟩:=mH Z
  refine⟨⟨Y,fun f X=>J f (BN _ X),k1⟩,k2,fun g T f X=>?_⟩
  rcases gB.1 T with rfl|T
  ·exact J f (List.mem_append_right _ X)
  ·exact k3 g T f X
def dg.cons{e:OE}(Y:e.holds base B w S)(J: ∀f∈O,e.apart f)(Z:dg base B w S O):dg base B w S (e::O):=⟨Y,J,Z⟩

section
section
variable{ty:TypeId}
end
end

def D7:List Nat->List Ty->jZ->jZ
 |d::ds,t::ts,G=>D7 ds ts ((d,t)::G)
 |_,_,G=>G
variable{N:Nat}
def AK{N:Fr}{S:SH}: ∀(ds:List Nat) (ts:List Ty) (vs:List Value) (a:Act) (G:jZ),ds.length=ts.length->tX S ts vs->(ds.all fun d=>Nat.blt d N.n)=true->cW N S a G->
  cW N S {tmps:=(ds.zip vs).foldl (fun t (p:Nat×Value)=>t.setIfInBounds p.1 p.2) a.tmps,defers:=a.defers} (D7 ds ts G)
 |[],_,_,_,_,hl,_,_,hF=>by
  cases vj hl.symm
  simpa [D7] using hF
 |d::ds,[],_,_,_,hl,_,_,_=>by simp at hl
 |d::ds,t::ts,[],_,_,_,hv,_,_=>hv.elim
 |d::ds,t::ts,v::vs,a,G,hl,⟨Y,J⟩,hd,hF=>by
  simp only [vu,jX]at hd
  have:=AK ds ts vs (a.put (some d) v) ((d,t)::G) (by simpa using hl) J hd.2 (hF.put hd.1 Y)
  simpa [D7,Act.put] using this
def Ry(E:En)(l:Nat)(body:Code)(R:Ending->World->Prop):Exit->Act->World->Prop:=
 Exit.then (fun a₁ w₁=> ∃w₂,(Instr.beginRound l).run E.P w₁= .ok () w₂/\body.wpIn (fw E.r) 0 E.P (roundPost E.P l R) a₁ w₂) (fun _ _ _=>False)
section
def za{ps:Array Nat}{vs:List Value}{tmps:Array Value}:(ps.zip vs.toArray).foldl (fun t (p,v)=>t.setIfInBounds p v) tmps=(ps.toList.zip vs).foldl (fun t (p:Nat×Value)=>t.setIfInBounds p.1 p.2) tmps:=by
 rw [<-Array.foldl_toList]
 simp
end

variable{S0:SH}{fn:Func}{w0:World}
section
variable{R:Ending->World->Prop}{ds:List Deferred}
def Bf(h:AT ⟨P,⟨N,[]⟩,B,w0,S0,none⟩ (bodyPost P fn R) .ret O G):AT ⟨P,⟨N,[]⟩,B,w0,S0,none⟩ (bodyPostM (fw none) 0 P fn R) .ret O G:=fun a w S st=>by
 obtain⟨Y,v,J,Z⟩:=h a w S st
 show LeavesInM (fw none) 0 P fn a.tmps R a.defers .returning w
 rw [Y]
 exact⟨v,J,Z⟩
def HV(h:AT ⟨P,⟨N,ds⟩,B,w0,S0,none⟩ (bodyPostM (fw none) 0 P fn R) .ret O G):AT ⟨P,⟨N,yK b::ds⟩,B,w0,S0,none⟩ (bodyPostM (fw none) 0 P fn R) .ret (GD b::O) G:=fun a w S st=>by
 show LeavesInM (fw none) 0 P fn a.tmps R a.defers .returning w
 rw [st.facts.defers]
 obtain⟨hno,V⟩:=st.own.1.1
 have hlt:=(vL.1 V).1
 have hext:gU (fun k=>k=b) w S (w.putObj b (.deferred none)) S:=⟨rfl,rfl,rfl,dr _,by simp,fun k _ hk=>World.putObj_heap_other hk,SH.le_refl _,fun _ _ _=>rfl⟩
 have hsat:jA (w.putObj b (.deferred none)) S:=st.sat.same fun k o hk=>by
  have hne:k≠b:=fun e=>by subst e;rw [hno]at hk;cases hk
  exact World.putObj_heap_other hne
 have:=h {a with defers:=ds} (w.putObj b (.deferred none)) S ⟨st.ext.step hext (fun c hc=>st.own.1.2 c hc),hsat,st.own.2.2.ext hext (fun g T k hk hkb=>st.own.2.1 g T k hkb hk),⟨st.facts.size,rfl,st.facts.at_⟩⟩
 exact⟨by simp,.inl ⟨b,_,rfl,run_takeDeferred V,this⟩⟩
end
def K0{t:Ty}(X:P.funcs[f]? =some fn)(V:fn.body=some c)(hN:fn.ntmps=N)(hn:Nat.ble ts.length N=true)(h: ∀w0 S0,CG ⟨P,⟨N,[]⟩,oW,w0,S0,none⟩ (bodyPostM (fw none) 0 P fn (Fb ⟨P,⟨N,[]⟩,oW,w0,S0,none⟩ t)) c [] (sO 0 ts)):cK P f ts t:=by
 subst hN
 intro w S vs hs hv
 exact mf.1 (callsIn_of_wp_marks (F:=fw none) (n:=0) X V trivial (h w S _ w S ⟨gU.refl _ _ _,hs,trivial,o3 hv _ (pz hn)⟩))

def rT(t:Ty):Rp Unit where
 sz:=1
 agg:=false
 rc:=fun S cs _=> ∃v,cs=[v]/\v.oneCell' =true/\t.p S v
 mono:=fun h ⟨v,e,k,l⟩=>⟨v,e,k,t.mono h l⟩
 len:=fun⟨_,e,_⟩=>by rw [e];rfl
 one:=fun⟨v,e,k,_⟩ c hc=>by rw [e]at hc;simp at hc;subst hc;exact k
 sc:=fun _=>rfl
def tRT{t:Ty}{u:Unit}{v:Value}:(H (rT t) u).p S v↔v.oneCell' =true/\t.p S v:=by
 constructor
 ·rintro⟨cs,rfl,w,rfl,Y,J⟩;exact⟨Y,J⟩
 ·rintro⟨Y,J⟩;exact⟨[v],rfl,v,rfl,Y,J⟩
variable{hg U:TypeId}{agg:Bool}{bytes cap:Nat}{dst:Option Tmp}{get:α->β}{k' :IntKind}{lo:Int}{off sz:Nat}{ys:List α}{z:List Value}
section
variable{ty:TypeId}
def bT.imp{t u:Ty}(h:bT E O G o t)(k: ∀S v,t.p S v->u.p S v):bT E O G o u:=fun a w S hs ho X=>
 my (fun _ _ ⟨v,S',Y,J,Z,h4⟩=>⟨v,S',Y,J,Z,k S' v h4⟩) (h a w S hs ho X)
def JO{t:Ty}{p:Operand}(ti:TI E.P U 1 bytes false z)(hp:aF E.N G p (bC (rT t) ())):bT E O G ⟨dst,.load U p,ty,pos,after,g⟩ t:=
 (ir (r:=rT t) (x:=()) ti rfl rfl hp).imp fun _ _ h=>(tRT.1 h).2

def JB:rV.rc S [.slice none 0 0] (aL none 0 0):=⟨rfl,rfl⟩
def BC{N:Fr}(h:aF N G x (tV (aL l cap n))):aF N G x (H rV (aL l cap n)):=fun S a X=>qg.2 ⟨h S a X,by cases l<;>rfl⟩
def k5{p:Operand}(ti:TI E.P U 1 bytes false z)(hm:bx rV hg b (aL l cap n)∈O)(hp:aF E.N G p (tV (ax b 0))):
  bT E O G ⟨dst,.load U p,ty,pos,after,g⟩ (tV (aL l cap n)):=(be (q:=rV) (get:=fun x=>x) ti rfl rfl bO hm hp).imp fun _ _ h=>(qg.1 h).1

def dk{α:Type}(xs:List α)(lo hi:Int):Option (List α):=if 0<=lo/\lo<=hi/\hi<=(xs.length:Int)then some ((xs.take hi.toNat).drop lo.toNat)else none
def ft(h:dk xs lo hi=some ys): ∃l m:Nat,lo=l/\hi=m/\l<=m/\m<=xs.length/\ys=(xs.take m).drop l:=by
 unfold dk at h
 split at h
 ·rename_i hc
  exact⟨lo.toNat,hi.toNat,by omega,by omega,by omega,by omega,by simpa using h.symm⟩
 ·cases h
def vT{a:Option Addr}{l:Nat}(h:DW r S a xs)(hl:l<=m)(hm:m<=xs.length)(hc:xs.length<=cap):
  DW r S (if cap=l then a else a.map (·.add (l*r.sz))) ((xs.take m).drop l):=by
 by_cases hlm:l=m
 ·left;subst hlm;simp
 right
 rcases h with h|⟨b,off,c,hg,fr,e1,e2,e3⟩
 ·subst h;simp at hm;omega
 subst e1
 have hne: ¬(cap=l):=by omega
 refine⟨b,off+l*r.sz,c,hg,fr,?_,e2,?_⟩
 ·rw [bn hne];simp [Addr.add]
 have hlen:((xs.take m).drop l).length=m-l:=by simp;omega
 have e4:xs=(xs.take m).take l++((xs.take m).drop l++xs.drop m):=by
  rw [<-jC,sn,sn]
 have Y:((xs.take m).take l).length=l:=by simp;omega
 rw [e4]at e3
 have J:=(oS e3).2
 have Z:=(oS J).1
 rw [Y]at Z
 rw [hlen]at Z ⊢
 rw [<-e4]at Z
 rw [zm,vI,p8]at Z
 have hmin:min ((m-l)*r.sz) (xs.length*r.sz-l*r.sz)=(m-l)*r.sz:=by
  rw [<-Nat.sub_mul];exact vh (wD _ (by omega))
 rwa [hmin]at Z
def iE{n:Int}{y:Nat}{code:BoundsCode}(h0:0<=n)(Y:n<=y):(Instr.sliceBound (.int k n) y code).run P w= .ok n.toNat w:=by
 simp [Instr.sliceBound,asIntOf,h0,Y]
def Io{lo hi:Operand}{i:Int}(D:E.P.underlying t=some (.slice hg))(ti:TI E.P hg sz bytes agg z)(hsz:r.sz=sz)(I:aF E.N G x (H (gJ r) xs))(hlo:aF E.N G lo (H (rI k) i))(hhi:aF E.N G hi (H (rI k') j))(h:dk xs i j=some ys):bT E O G ⟨dst,.slice t x (some lo) (some hi) none,ty,pos,after,g⟩ (H (gJ r) ys):=
 .of_pure fun a w S _ _ X=>by
  subst hsz
  obtain⟨ad,cap,Y,J,Z,h4⟩:=lI.1 (I S a X)
  have h5:=fq.1 (hlo S a X)
  have h6:=fq.1 (hhi S a X)
  obtain⟨l,m,rfl,rfl,h7,h8,rfl⟩:=ft h
  have hlen:((xs.take m).drop l).length=m-l:=by simp;omega
  refine⟨.slice (if cap=l then ad else ad.map (·.add (l*r.sz))) (m-l) (cap-l),?_,lI.2 ⟨_,cap-l,by rw [hlen],by omega,by omega,vT h4 h7 h8 J⟩⟩
  simp [execOp,Instr.sliceAt,Y,h5,h6,Instr.slice,jB D,Instr.sliceBounds,iE (k:=k') (n:=(m:Int)) (y:=cap) (by omega) (by omega),iE (k:=k) (n:=(l:Int)) (y:=m) (by omega) (by omega),ti.sizeOf]
def oU{hi:Operand}(D:E.P.underlying t=some (.slice hg))(ti:TI E.P hg sz bytes agg z)(hsz:r.sz=sz)(I:aF E.N G x (H (gJ r) xs))(hhi:aF E.N G hi (H (rI k') j))(h:dk xs 0 j=some ys):bT E O G ⟨dst,.slice t x none (some hi) none,ty,pos,after,g⟩ (H (gJ r) ys):=
 .of_pure fun a w S _ _ X=>by
  subst hsz
  obtain⟨ad,cap,Y,J,Z,h4⟩:=lI.1 (I S a X)
  have h6:=fq.1 (hhi S a X)
  obtain⟨l,m,hl,rfl,h7,h8,rfl⟩:=ft h
  have hl0:l=0:=by omega
  subst hl0
  have hlen:((xs.take m).drop 0).length=m-0:=by simp;omega
  refine⟨.slice (if cap=0 then ad else ad.map (·.add (0*r.sz))) (m-0) (cap-0),?_,lI.2 ⟨_,cap-0,by rw [hlen],by omega,by omega,vT h4 h7 h8 J⟩⟩
  simp [execOp,Instr.sliceAt,Y,h6,Instr.slice,jB D,Instr.sliceBounds,iE (k:=k') (n:=(m:Int)) (y:=cap) (by omega) (by omega),ti.sizeOf]
def Ga{lo:Operand}{i:Int}(D:E.P.underlying t=some (.slice hg))(ti:TI E.P hg sz bytes agg z)(hsz:r.sz=sz)(I:aF E.N G x (H (gJ r) xs))(hlo:aF E.N G lo (H (rI k) i))(h:dk xs i (xs.length:Int)=some ys):bT E O G ⟨dst,.slice t x (some lo) none none,ty,pos,after,g⟩ (H (gJ r) ys):=
 .of_pure fun a w S _ _ X=>by
  subst hsz
  obtain⟨ad,cap,Y,J,Z,h4⟩:=lI.1 (I S a X)
  have h5:=fq.1 (hlo S a X)
  obtain⟨l,m,rfl,hm,h7,h8,rfl⟩:=ft h
  have hm' :m=xs.length:=by omega
  subst hm'
  have hlen:((xs.take xs.length).drop l).length=xs.length-l:=by simp
  refine⟨.slice (if cap=l then ad else ad.map (·.add (l*r.sz))) (xs.length-l) (cap-l),?_,lI.2 ⟨_,cap-l,by rw [hlen],by omega,by omega,vT h4 h7 h8 J⟩⟩
  simp [execOp,Instr.sliceAt,Y,h5,Instr.slice,jB D,Instr.sliceBounds,iE (k:=k) (n:=(l:Int)) (y:=xs.length) (by omega) (by omega),ti.sizeOf]
end
def kD{id:Nat}(m:Nat)(hm:E.P.follows .mixedOrders=true)(hsl:s3 E.N.n [] (L.take m)=true)(hlen:ts.length=(L.take m).length)(D:vx L (L.take m).length (L.drop m).length=true)(hd:DR E O G L ts 0 (L.take m))(k:RG E L.toArray Q (L.drop m) O (F7 (L.take m) ts G)):CG E Q (.region id L.toArray true) O G:=Ld (sn m L).symm hm hsl hlen D hd k

def jM(P:Program){α:Type} [DecidableEq α](t:TypeId)(r:Rp α)(n:Nat):Prop:=
 ∀(S:SH) (cs ds:List Value) (x y:α) (d:Nat) (w:World),r.rc S cs x->r.rc S ds y->(Op.equalIn (d+n) t (r.val cs) (r.val ds)).run P w= .ok (decide (x=y)) w
def qo(h:P.underlying t=some (.int k')):jM P t (rI k) (n+1):=fun S cs ds x y d w I hy=>by
 have Y:cs=[.int k x]:=I
 have J:ds=[.int k y]:=hy
 subst Y J
 have:(Op.equalIn (d+n+1) t (.int k x) (.int k y)).run P w= .ok (x==y) w:=by simp [Op.equalIn,jB h]
 have e:(x==y)=decide (x=y):=by by_cases h:x=y<;>simp [h]
 rw [e]at this
 exact this
def KG(h:P.underlying t=some .bool):jM P t rB (n+1):=fun S cs ds x y d w I hy=>by
 have Y:cs=[.bool x]:=I
 have J:ds=[.bool y]:=hy
 subst Y J
 have:=run_equalIn_bool' (P:=P) w (d+n) t x y h
 simp only [Rp.val,rB,List.headD_cons,jx,gE]
 rw [show d+(n+1)=d+n+1 from rfl,this]
 cases x<;>cases y<;>rfl
def MP(h:P.underlying t=some .string):jM P t rS (n+1):=fun S cs ds x y d w I hy=>by
 have Y:cs=[.string ⟨x.toArray⟩]:=I
 have J:ds=[.string ⟨y.toArray⟩]:=hy
 subst Y J
 have:=run_equalIn_string (P:=P) w (d+n) t ⟨x.toArray⟩ ⟨y.toArray⟩ h
 simp only [Rp.val,rS,List.headD_cons,jx,gE]
 rw [show d+(n+1)=d+n+1 from rfl,this]
 simp only [ByteArray.toList_eq]
 by_cases e:x=y<;>simp [e]
abbrev Fd:=TypeId×Nat×Bool
def Gq(f:Field):Fd:=(f.type,f.offset,f.name== "_")
def IE(d:Nat)(xs ys:Array Value):List Fd->Sem Bool
 |[]=>pure true
 |f::fs=>
  if f.2.2=false then do
   let a<-part f.1 xs f.2.1
   let b<-part f.1 ys f.2.1
   let r<-Op.equalIn d f.1 a b
   if(!r)=true then pure false else IE d xs ys fs
  else IE d xs ys fs
def E0(d:Nat)(xs ys:Array Value): ∀fs:List Field,Op.eqFields d xs ys fs=IE d xs ys (fs.map Gq)
 |[]=>rfl
 |f::fs=>by
  unfold Op.eqFields IE
  rw [E0 d xs ys fs]
  by_cases h:f.name= "_"
  ·have e:((Gq f).2.2=false)=False:=by simp [Gq,h]
   simp only [py,e,gE]
   rw [bn (by simpa using h)]
  ·have e:((Gq f).2.2=false)=True:=by simp [Gq,h]
   simp only [py,e,gu]
   rw [bE (by simpa using h)]
   rfl
def Ct(P:Program){α:Type}(r:Rp α)(n:Nat)(fs:List Fd)(c:α->α->Bool):Prop:=
 ∀(S:SH) (cs ds:List Value) (x y:α) (d:Nat) (w:World),r.rc S cs x->r.rc S ds y->(IE (d+n) cs.toArray ds.toArray fs).run P w= .ok (c x y) w
def Ct.nil:Ct P r n [] (fun _ _=>true):=fun _ _ _ _ _ _ _ _ _=>rfl
def qj(ti:TI P t sz bytes agg z)(hsz:q.sz=sz)(hag:q.agg=agg)(X:mj r off q get){cs:List Value}{x:α}(I:r.rc S cs x)(w:World):
  (part t cs.toArray off).run P w= .ok (q.val ((cs.drop off).take q.sz)) w:=by
 have h:=X S cs x I
 have hl:=q.len h
 subst hsz hag
 unfold part
 by_cases ha:q.agg=true
 ·have e1:=ti.isAgg w
  simp only [sW,e1,ha,uc,gu,ti.sizeOf,Sem.run_pure]
  unfold Rp.val
  rw [bE ha]
  congr 2
  apply Array.ext'
  simp
 ·rw [wC]at ha
  have e1:=ti.isAgg w
  have hs1:=q.sc ha
  simp only [sW,e1,ha,uc,jx,gE]
  rw [hs1]at hl ⊢
  obtain⟨v,hv⟩:=List.length_eq_one_iff.1 hl
  have hc:cs[off]? =some v:=by
   have:((cs.drop off).take 1)[0]? =some v:=by rw [hv];rfl
   rw [wE (by omega),ue]at this
   simpa using this
  unfold Rp.val
  rw [hv,ha]
  simp [hc]
def Ct.cons [DecidableEq β]{t:Nat}{fs:List Fd}{c:α->α->Bool}(ti:TI P t sz bytes agg z)(hsz:q.sz=sz)(hag:q.agg=agg)(X:mj r off q get)(he:jM P t q n)(hr:Ct P r n fs c):
  Ct P r n ((t,off,false)::fs) (fun x y=>decide (get x=get y)&&c x y):=fun S cs ds x y d w I hy=>by
 have Y:=qj ti hsz hag X I w
 have J:=qj ti hsz hag X hy w
 have Z:=he S _ _ _ _ d w (X S cs x I) (X S ds y hy)
 unfold IE
 simp only [gu,sW,Y,J,Z,uc]
 by_cases e:get x=get y
 ·simp only [e,decide_true,mq,jx,gE,yW]
  exact hr S cs ds x y d w I hy
 ·simp [e]
def wq [DecidableEq α]{t:Nat}{fs:List Fd}{c:α->α->Bool}(D:(P.underlying t).map (fun d=>match d with| .struct l=>(true,l.toList.map Gq)|_=>(false,[]))=some (true,fs))(hp:P.stoodInHeld t=false)(ha:r.agg=true)(hr:Ct P r n fs c)(hc: ∀x y,c x y=decide (x=y)):jM P t r (n+1):=fun S cs ds x y d w I hy=>by
 obtain⟨l,Y,J⟩: ∃l,P.underlying t=some (.struct l)/\l.toList.map Gq=fs:=by
  cases hu:P.underlying t with
  |none=>rw [hu]at D;cases D
  |some d=>
   rw [hu]at D
   cases d<;>simp at D
   exact⟨_,rfl,D⟩
 have hfo:P.fieldsOf t=l:=by unfold Program.fieldsOf;rw [Y]
 have:=run_equalIn_struct (P:=P) w (d+n) t cs.toArray ds.toArray (by rw [hfo];exact Y) hp
 rw [qe ha,qe ha,show d+(n+1)=d+n+1 from rfl,this,hfo,E0,J,hr S cs ds x y d w I hy,hc]
def jr [DecidableEq α](h:jM P t r n)(m:Nat):jM P t r (m+n):=fun S cs ds x y d w I hy=>by
 have:=h S cs ds x y (d+m) w I hy
 rwa [Nat.add_assoc]at this
def Jg.of [DecidableEq α](T:P.eqGuardType P.depth t=false)(h:jM P t r 20):Jg P t r:=⟨T,fun S cs ds x y d w I hy=>h S cs ds x y d w I hy⟩

def KK{l:List α}{e:α}(h:xs.drop i=e::l):decide ((i:Int)<(xs.length:Int))=true:=by
 have:i<xs.length:=by
  rcases lz i xs.length with h' |h'
  ·exact h'
  ·rw [CA h']at h;cases h
 simp;omega
def NI(h:xs.drop i=[]):decide ((i:Int)<(xs.length:Int))=false:=by
 have:=Bp.1 h
 simp;omega
def dH{l:List α}{e:α}(h:xs.drop i=e::l):xs.drop (i+1)=l:=by
 rw [<-p8,h];rfl
def fy{l:List α}{e:α}(h:xs.drop i=e::l):cU xs (i:Int)=some e:=by
 rw [cI]
 have:=ue (xs:=xs) (i:=i) (j:=0)
 rw [h]at this
 simpa using this.symm
def HB{l:List α}{e:α}(h:xs.drop i=e::l)(hN:xs.length<=maxLen):i<9223372036854775807:=by
 have:=of_decide_eq_true (KK h)
 simp only [maxLen]at hN
 omega
def Qn{k:Nat}(h:N-i=k+1):decide ((i:Int)<(N:Int))=true:=by simp;omega
def Qo(h:N-i=0):decide ((i:Int)<(N:Int))=false:=by simp;omega
def LS{k:Nat}(h:N-i=k+1):N-(i+1)=k:=by omega
def LT{k:Nat}(h:N-i=k+1)(hN:N<=9223372036854775807):i<9223372036854775807:=by omega
def Qq(h:n<=maxLen):n<=9223372036854775807:=by simp only [maxLen]at h;omega
variable{ix:Operand}{mm:Bool}{zs:List α}
section
variable{e:Exit}
section
variable{ty:TypeId}
def wX{one:Operand}{xt yt:TypeId}(hi:i<9223372036854775807)(I:aF E.N G x (H (rI .i64) (i:Int)))(Y:aF E.N G one (H (rI .i64) 1)):
  bT E O G ⟨dst,.binOp .add xt x one yt,ty,pos,after,g⟩ (H (rI .i64) ((i+1:Nat):Int)):=by
 have e:IntKind.i64.wrap ((i:Int)+1)=((i+1:Nat):Int):=by
  rw [IntKind.wrap_i64];omega
 have:=lD (E:=E) (O:=O) (dst:=dst) (ty:=ty) (pos:=pos) (after:=after) (g:=g) (xt:=xt) (yt:=yt) I Y
 rwa [e]at this
end
def gj(hm:jS mm r hg l cap xs∈O)(h:xs.length<=maxLen->CG E Q c O G):CG E Q c O G:=fun a w S st=>by
 refine h ?_ a w S st
 obtain⟨cells,Y,_⟩:=(st.own.mem _ hm).1
 cases l with
 |none=>have:=Y.1;omega
 |some b=>obtain⟨cur,_,g2,g3,_⟩:=Y;exact xy g2 g3
def St.dataAt{k:Nat}(h:St E O G a w S)(hk:bM G k=some (tO r l cap xs)):St E O ((k,H (gJ r) xs)::G) a w S:=h.cons (h.facts.at_ k _ hk).2
def pc(k:Nat)(hk:bM G k=some (tO r l cap xs))(h:AT E Q e O ((k,H (gJ r) xs)::G)):AT E Q e O G:=fun a w S st=>h a w S (st.dataAt hk)
def jn(l:Option Nat)(off:Nat):Value:=
 match l with
 |none=> .pointer none
 |some b=>ax b off
def pI(h:zd mm r hg l cap xs w S){e:α}(hi:xs[i]? =some e):
  ∃b cur,l=some b/\w.heap[b]? =some (.cells cur hg (0,0))/\xs.length<=cap/\cur.size=cap*r.sz/\r.rc S ((cur.toList.drop (i*r.sz)).take r.sz) e:=by
 obtain⟨cells,Y,J,_⟩:=h
 have hlt:=(qr.1 hi).1
 cases l with
 |none=>have:=Y.1;omega
 |some b=>
  obtain⟨cur,g1,g2,g3,g4,g5⟩:=Y
  refine⟨b,cur,rfl,g1,g2,g4,?_⟩
  have Z:=s9 J hi
  rw [<-g5,zm,vI]at Z
  have h4:i*r.sz+r.sz<=xs.length*r.sz:=by
   rw [<-Nat.succ_mul];exact wD _ hlt
  rwa [vh (by omega)]at Z
def iT{i:Int}{e:α}(h:cU xs i=some e):0<=i/\xs[i.toNat]? =some e:=by
 unfold cU at h
 split at h
 ·exact⟨by assumption,h⟩
 ·cases h
section
variable{ty:TypeId}
def bX{e:TypeId}{i:Int}(D:E.P.underlying t=some (.slice e))(ti:TI E.P e sz bytes agg z)(hm:jS mm r U l cap xs∈O)(I:aF E.N G x (tV (aL l cap n)))(hi:aF E.N G ix (H (rI k) i))(hy:cU xs i=some y)(hn:n=xs.length:=by rfl):
  bT E O G ⟨dst,.indexAddr t x ix,ty,pos,after,g⟩ (tV (jn l (i.toNat*sz+0))):=
 .of_pure fun a w S _ ho X=>by
  subst hn
  have Y:a.eval x=aL l cap xs.length:=I S a X
  have Z:a.eval ix= .int k i:=fq.1 (hi S a X)
  obtain⟨h0,hy'⟩:=iT hy
  obtain⟨b,cur,rfl,_⟩:=pI (ho.mem _ hm).1 hy'
  have hlt:i.toNat<xs.length:=(qr.1 hy').1
  refine⟨_,?_,rfl⟩
  have hc:0<=i/\i<(xs.length:Int):=⟨h0,by omega⟩
  simp [execOp,Y,Z,aL,Instr.indexAt,asIntOf,jB D,hc,ti.sizeOf,iI,jn,ax]
def dm{foff:Nat}{i:Int}{p:Operand}(ti:TI E.P hg sz bytes agg z)(hsz:q.sz=sz)(hag:q.agg=agg)(hget:mj r foff q get)(hoff:Nat.ble (foff+q.sz) r.sz=true)(hm:jS mm r U l cap xs∈O)(hy:cU xs i=some y)(hp:aF E.N G p (tV (jn l (i.toNat*r.sz+foff)))):bT E O G ⟨dst,.load hg p,ty,pos,after,g⟩ (H q (get y)):=
 .of_pure fun a w S _ ho X=>by
  have Y:a.eval p=jn l (i.toNat*r.sz+foff):=hp S a X
  obtain⟨h0,hy'⟩:=iT hy
  obtain⟨b,cur,rfl,V,_,_,h6⟩:=pI (ho.mem _ hm).1 hy'
  have hoff' :=pz hoff
  have h7:=hget S _ _ h6
  rw [zm,vI,p8,vh (by omega)]at h7
  refine⟨_,?_,_,rfl,h7⟩
  simp [execOp,Y,jn,ax,Instr.loadAt,Instr.sureAddr,jh ti V hsz hag h7]
def By{o:Nat}{p:Operand}(X:cP E.P hg i=some (off,sz))(h0:Nat.beq sz 0=false)(hm:jS mm r U l cap xs∈O)(hy:cU xs j=some y)(hp:aF E.N G p (tV (jn l o))):
  bT E O G ⟨dst,.fieldAddr hg p i,ty,pos,after,g⟩ (tV (jn l (o+off))):=
 .of_pure fun a w S _ ho hF=>by
  have Y:a.eval p=jn l o:=hp S a hF
  obtain⟨_,hy'⟩:=iT hy
  obtain⟨b,cur,rfl,_⟩:=pI (ho.mem _ hm).1 hy'
  obtain⟨fs,f,e1,e2,e3,e4⟩:=xN X
  have h0' :sz≠0:=fun e=>by subst e;simp at h0
  refine⟨_,?_,rfl⟩
  simp [execOp,Y,jn,ax,Instr.fieldAt,jB e1,e2,Instr.sureAddr,fieldPlace,e4,h0',e3,iI]
end
def wO{α:Type}{r:Rp α}{S:SH}{y:α}{c:List Value}(hc:r.rc S c y): ∀{xs:List α} {i:Nat} {cs:List Value},qS r S cs xs->i<xs.length->qS r S (cs.take (i*r.sz)++c++cs.drop (i*r.sz+r.sz)) (xs.set i y)
 |[],_,_,_,h=>by simp at h
 |x::xs,0,cs,⟨a,b,e,Y,J⟩,_=>by
  have hl:=r.len Y
  refine⟨c,b,?_,hc,J⟩
  rw [e,<-hl];simp
 |x::xs,i+1,cs,⟨a,b,e,Y,J⟩,h=>by
  have hl:=r.len Y
  have ih:=wO hc J (i:=i) (by simpa using h)
  refine⟨a,_,?_,Y,ih⟩
  have e1:(i+1)*r.sz=a.length+i*r.sz:=by rw [hl,tY];omega
  rw [e,e1,List.take_length_add_append,Nat.add_assoc,List.drop_length_add_append]
  simp
def ku{set:α->β->α}{foff:Nat}{v:β}{i:Int}{p:Operand}{ty:TypeId}(ti:TI E.P hg sz bytes agg z)(hsz:q.sz=sz)(hset:ij r foff q set)(hoff:Nat.ble (foff+q.sz) r.sz=true)(hy:cU xs i=some y)(hz:xs.set i.toNat (set y v)=zs)(hp:aF E.N G p (tV (jn l (i.toNat*r.sz+foff))))(I:aF E.N G x (H q v))(k:RG E ops Q rest (fD r U l cap zs::O) G):
  RG E ops Q (⟨none,.store hg p x,ty,pos,after,none⟩::rest) (fD r U l cap xs::O) G:= .of rfl fun a w S st=>by
 subst hz
 have Y:a.eval p=jn l (i.toNat*r.sz+foff):=hp S a st.facts
 obtain⟨ds,J,Z⟩:=I S a st.facts
 obtain⟨h0,hy'⟩:=iT hy
 have hlt:i.toNat<xs.length:=(qr.1 hy').1
 obtain⟨cells,hraw,hrc,hno⟩:=st.own.1.1
 obtain⟨b,cur,rfl,V,hle,hcs,h6⟩:=pI st.own.1.1 hy'
 obtain⟨cur',hb',hle',hmax,hcs',hct⟩:=hraw
 have hcc:cur' =cur:=by rw [V]at hb';injection hb' with e;injection e with e1;exact e1.symm
 subst hcc
 have hno' :S b=none:=hno b rfl
 have hoff' :=pz hoff
 have hl3:=q.len Z
 have hmul:i.toNat*r.sz+r.sz<=xs.length*r.sz:=by rw [<-Nat.succ_mul];exact wD _ hlt
 have hmul2:xs.length*r.sz<=cur'.size:=by rw [hcs];exact wD _ hle
 obtain⟨w',hr,e1,e2,e3,e4,e5,e6⟩:=iO ti hsz Z V (off:=i.toNat*r.sz+foff) (by omega)
 have hrun:(execOp a.eval ⟨none,.store hg p x,ty,pos,after,none⟩).run E.P w= .ok .skip w' :=by
  simp [execOp,Y,J,Instr.storeAt,jn,ax,Instr.sureAddr,hr]
 refine⟨fun c h=>(by cases h),?_⟩
 rw [hrun]
 have hnew:=hset S _ _ _ _ h6 Z
 have hrc' :=wO hnew hrc hlt
 have hcl:=mw hrc
 have hcells:(cur'.toList.take (i.toNat*r.sz+foff)++ds++cur'.toList.drop (i.toNat*r.sz+foff+q.sz)).take (xs.length*r.sz)=
   cells.take (i.toNat*r.sz)++(((cur'.toList.drop (i.toNat*r.sz)).take r.sz).take foff++ds++((cur'.toList.drop (i.toNat*r.sz)).take r.sz).drop (foff+q.sz))++cells.drop (i.toNat*r.sz+r.sz):=by
  subst hct
  apply BM
  intro j
  simp only [List.getElem?_take,List.getElem?_append,ue,zq,Bj,jO,yx]
  rcases lz j (xs.length*r.sz)with hj|hj
  ·simp only [hj,gu]
   rcases lz j (i.toNat*r.sz)with hj1|hj1
   ·rw [bE (by omega),bE (by omega),bE (by omega),bE (by omega),bE (by omega),bE (by omega)]
   ·rcases lz j (i.toNat*r.sz+foff)with hj2|hj2
    ·rw [bE (by omega),bE (by omega),bE (by omega),bE (by omega),bn (by omega),bE (by omega),bE (by omega),bE (by omega),bE (by omega)]
     congr 1;omega
    ·rcases lz j (i.toNat*r.sz+foff+q.sz)with hj3|hj3
     ·rw [bE (by omega),bn (by omega),bE (by omega),bn (by omega),bE (by omega),bn (by omega)]
      congr 1;omega
     ·rw [bn (by omega)]
      rcases lz j (i.toNat*r.sz+r.sz)with hj4|hj4
      ·rw [bE (by omega),bn (by omega),bn (by omega),bE (by omega)]
       congr 1;omega
      ·rw [bn (by omega),bE (by omega)]
       congr 1;omega
  ·rw [bn (by omega),bn (by omega),bn (by omega)]
 obtain⟨g1,g2,g3⟩:=nD (O:=O) st.sat (fD r U (some b) cap xs) (fD r U (some b) cap (xs.set i.toNat (set y v))) st.own (fun k=>⟨fun h=>(qa h).symm,fun h=>by rw [h];rfl⟩) (fun k=>⟨fun h=>(qa h).symm,fun h=>by rw [h];rfl⟩) ⟨e1,e2,e3,e4.1,e4.2⟩ e6
  ⟨_,⟨_,e5,by rw [BJ];exact hle,hmax,by simp only [BL,jO,zq,Bj,yx];omega,by rw [BJ];exact hcells⟩,hrc',fun k hk=>by rw [<-qa hk];exact hno'⟩ hno'
 exact k _ _ S ⟨st.ext.step g1 (fun c hc=>st.own.1.2 c (by rw [hc];rfl)),g2,g3,st.facts⟩

def mR(sz:Nat)(l:Option Nat)(cap lo n:Nat):Value:=
 match l with
 |none=> .slice none 0 0
 |some b=> .slice (some ⟨b,if cap=lo then 0 else lo*sz,none⟩) n (cap-lo)
section
variable{ty:TypeId}
def BY(h:zd mm r U l cap xs w S): ∃ad c,aL l cap xs.length= .slice ad xs.length c/\xs.length<=c/\ad=l.map (fun b=>⟨b,0,none⟩)/\(l=none->c=0/\xs=[])/\(l≠none->c=cap):=by
 obtain⟨cells,Y,_⟩:=h
 cases l with
 |none=>
  have I:xs=[]:=vj Y.1
  subst I
  exact⟨none,0,rfl,dr _,rfl,fun _=>⟨rfl,rfl⟩,fun h=>absurd rfl h⟩
 |some b=>
  obtain⟨cur,_,g2,_⟩:=Y
  exact⟨_,cap,rfl,g2,rfl,fun h=>(by cases h),fun _=>rfl⟩
def nE{hi:Operand}(D:E.P.underlying t=some (.slice hg))(ti:TI E.P hg sz bytes agg z)(hsz:r.sz=sz)(hm:jS mm r U l cap xs∈O)(I:aF E.N G x (tV (aL l cap n)))(hhi:aF E.N G hi (H (rI k') j))(h:dk xs 0 j=some ys)(hn:n=xs.length:=by rfl):bT E O G ⟨dst,.slice t x none (some hi) none,ty,pos,after,g⟩ (tV (aL l cap ys.length)):=
 .of_pure fun a w S _ ho X=>by
  subst hsz
  subst hn
  have Y:a.eval x=aL l cap xs.length:=I S a X
  obtain⟨ad,c,J,Z,h4,h5,h5'⟩:=BY (ho.mem _ hm).1
  have h6:=fq.1 (hhi S a X)
  obtain⟨lo,m,hl,rfl,h7,h8,rfl⟩:=ft h
  have hl0:lo=0:=by omega
  subst hl0
  have hlen:((xs.take m).drop 0).length=m:=by simp;omega
  refine⟨_,?_,rfl⟩
  rw [J]at Y
  have hr:(execOp a.eval ⟨dst,.slice t x none (some hi) none,ty,pos,after,g⟩).run E.P w= .ok (.value (.slice ad m c)) w:=by
   simp [execOp,Instr.sliceAt,Y,h6,Instr.slice,jB D,Instr.sliceBounds,iE (k:=k') (n:=(m:Int)) (y:=c) (by omega) (by omega),ti.sizeOf]
   cases ad<;>simp [Addr.add]
  rw [hr,hlen,h4]
  cases l with
  |none=>
   obtain⟨rfl,rfl⟩:=h5 rfl
   have:m=0:=by simpa using h8
   subst this;rfl
  |some b=>rw [h5' (by simp)];rfl
def pJ{lo:Operand}{i:Int}(D:E.P.underlying t=some (.slice hg))(ti:TI E.P hg sz bytes agg z)(hsz:r.sz=sz)(hm:jS mm r U l cap xs∈O)(I:aF E.N G x (tV (aL l cap n)))(hlo:aF E.N G lo (H (rI k) i))(h:dk xs i (xs.length:Int)=some ys)(hn:n=xs.length:=by rfl):bT E O G ⟨dst,.slice t x (some lo) none none,ty,pos,after,g⟩ (tV (mR sz l cap i.toNat ys.length)):=
 .of_pure fun a w S _ ho X=>by
  subst hsz
  subst hn
  have Y:a.eval x=aL l cap xs.length:=I S a X
  obtain⟨ad,c,J,Z,h4,h5,h5'⟩:=BY (ho.mem _ hm).1
  have h6:=fq.1 (hlo S a X)
  obtain⟨lo',m,rfl,hm',h7,h8,rfl⟩:=ft h
  have hm2:m=xs.length:=by omega
  subst hm2
  have hlen:((xs.take xs.length).drop lo').length=xs.length-lo' :=by simp
  refine⟨_,?_,rfl⟩
  rw [J]at Y
  have hr:(execOp a.eval ⟨dst,.slice t x (some lo) none none,ty,pos,after,g⟩).run E.P w= .ok (.value (.slice (if c=lo' then ad else ad.map (·.add (lo' *r.sz))) (xs.length-lo') (c-lo'))) w:=by
   simp [execOp,Instr.sliceAt,Y,h6,Instr.slice,jB D,Instr.sliceBounds,iE (k:=k) (n:=(lo' :Int)) (y:=xs.length) (by omega) (by omega),ti.sizeOf]
  rw [hr,hlen,h4]
  cases l with
  |none=>
   obtain⟨rfl,rfl⟩:=h5 rfl
   have:lo' =0:=by simpa using h7
   subst this;rfl
  |some b=>
   rw [h5' (by simp)]
   unfold mR
   simp only [t8,yr,iI,pS]
   split<;>rfl
def zU{i:Int}(h:dk xs lo hi=some ys)(hy:cU ys i=some y):cU xs (lo+i)=some y/\0<=lo/\0<=i:=by
 obtain⟨l,m,rfl,rfl,Y,J,rfl⟩:=ft h
 obtain⟨h0,Z⟩:=iT hy
 refine⟨?_,by omega,h0⟩
 obtain⟨j,rfl⟩: ∃j:Nat,i=j:=⟨i.toNat,by omega⟩
 rw [show((l:Int)+(j:Int))=((l+j:Nat):Int)from by omega,cI]
 rw [ue,t8]at Z
 have hlt:l+j<m:=by
  have:=(qr.1 Z).1
  simp at this;omega
 rwa [wE hlt]at Z
def Bx{e:TypeId}{i:Int}(D:E.P.underlying t=some (.slice e))(ti:TI E.P e sz bytes agg z)(hsz:r.sz=sz)(hm:jS mm r U l cap xs∈O)(hs:dk xs lo hi=some ys)(I:aF E.N G x (tV (mR sz l cap lo.toNat ys.length)))(hi' :aF E.N G ix (H (rI k) i))(hy:cU ys i=some y):
  bT E O G ⟨dst,.indexAddr t x ix,ty,pos,after,g⟩ (tV (jn l ((lo+i).toNat*sz+0))):=
 .of_pure fun a w S _ ho X=>by
  subst hsz
  have Y:a.eval x=mR r.sz l cap lo.toNat ys.length:=I S a X
  have Z:a.eval ix= .int k i:=fq.1 (hi' S a X)
  obtain⟨hxi,hl0,hi0⟩:=zU hs hy
  obtain⟨_,hx'⟩:=iT hxi
  obtain⟨b,cur,rfl,_,hle,_⟩:=pI (ho.mem _ hm).1 hx'
  have hlt:i.toNat<ys.length:=(qr.1 (iT hy).2).1
  have hlt2:(lo+i).toNat<xs.length:=(qr.1 hx').1
  have hne: ¬(cap=lo.toNat):=by omega
  refine⟨_,?_,rfl⟩
  have hc:0<=i/\i<(ys.length:Int):=⟨hi0,by omega⟩
  have e1:(lo+i).toNat=lo.toNat+i.toNat:=by omega
  simp [execOp,Y,Z,mR,hne,Instr.indexAt,asIntOf,jB D,hc,ti.sizeOf,iI,jn,ax,e1,tY]
def LP{e:TypeId}(D:E.P.underlying t=some (.slice e))(hm:jS mm r U l cap xs∈O)(hs:dk xs lo hi=some ys)(I:aF E.N G x (tV (mR sz l cap lo.toNat ys.length))):
  bT E O G ⟨dst,.call ⟨.builtin .len,#[x],#[t]⟩,ty,pos,after,g⟩ (H (rI .i64) (ys.length:Int)):=
 .of_pure fun a w S _ ho X=>by
  have Y:a.eval x=mR sz l cap lo.toNat ys.length:=I S a X
  obtain⟨ad,c,Z⟩: ∃ad c,mR sz l cap lo.toNat ys.length= .slice ad ys.length c:=by
   cases l with
   |none=>
    obtain⟨_,J,_⟩:=(ho.mem _ hm).1
    have hx0:xs=[]:=vj J.1
    subst hx0
    obtain⟨l',m,_,_,_,h8,rfl⟩:=ft hs
    exact⟨none,0,by simp [mR]⟩
   |some b=>exact⟨_,_,rfl⟩
  refine⟨.int .i64 ys.length,?_,fq.2 rfl⟩
  simp [execOp,resolve,invoke,builtin,Builtin.len_,jB D,Y,Z,goInt]
end
def Ng(h:dk xs 0 j=some ys)(k:zd false r U l cap xs w S):zd false r U l cap ys w S:=by
 obtain⟨lo,m,hl,rfl,h7,h8,rfl⟩:=ft h
 have hl0:lo=0:=by omega
 subst hl0
 obtain⟨cells,Y,J,Z⟩:=k
 have hlen:((xs.take m).drop 0).length=m:=by simp;omega
 have h4:qS r S (cells.take (m*r.sz)) (xs.take m):=by
  have e:xs=xs.take m++xs.drop m:=(sn _ _).symm
  rw [e]at J
  have:=(oS J).1
  rwa [show(xs.take m).length=m from by simp;omega]at this
 refine⟨cells.take (m*r.sz),?_,by simpa using h4,fun b V=>Z b V⟩
 rw [hlen]
 cases l with
 |none=>
  obtain⟨g1,g2⟩:=Y
  exact⟨by omega,by rw [g2];simp⟩
 |some b=>
  obtain⟨cur,g1,g2,g3,g4,g5⟩:=Y
  exact⟨cur,g1,by omega,g3,g4,by rw [<-g5,vI,vh (wD _ h8)]⟩
def St.cut(h:dk xs 0 j=some ys)(st:St E (fD r U l cap xs::O) G a w S):St E (fD r U l cap ys::O) G a w S:=
 st.own_map fun ho=>⟨⟨Ng h ho.1.1,ho.1.2⟩,ho.2.1,ho.2.2⟩
def yl(h:dk xs 0 j=some ys)(k:RG E ops Q rest (fD r U l cap ys::O) G):RG E ops Q rest (fD r U l cap xs::O) G:=fun a w S st=>k a w S (st.cut h)
end

variable{x0 x1 x2 x3 x4 x5 x6:OE}
section
variable{e:Exit}
def tA{O:List OE}(h:dg base B w S (x0::x1::x2::x3::x4::x5::O)):dg base B w S (x5::x0::x1::x2::x3::x4::O):=
 (sR h rb (fun f X=>by simp only [gB]at X ⊢;rcases X with h|h|h|h|h|h<;>simp [h])).swap
def vf(h:RG E ops Q rest (x5::x0::x1::x2::x3::x4::O) G):RG E ops Q rest (x0::x1::x2::x3::x4::x5::O) G:=fun a w S st=>h a w S (st.own_map tA)
def kE(h:AT E Q e (x5::x0::x1::x2::x3::x4::O) G):AT E Q e (x0::x1::x2::x3::x4::x5::O) G:=fun a w S st=>h a w S (st.own_map tA)
def yn(h:LG E Q c (x5::x0::x1::x2::x3::x4::O) G):LG E Q c (x0::x1::x2::x3::x4::x5::O) G:=fun a w S st=>h a w S (st.own_map tA)
def tz{O:List OE}(h:dg base B w S (x0::x1::x2::x3::x4::x5::x6::O)):dg base B w S (x6::x0::x1::x2::x3::x4::x5::O):=
 (sR h tA (fun f X=>by simp only [gB]at X ⊢;rcases X with h|h|h|h|h|h|h<;>simp [h])).swap
def Cq(h:RG E ops Q rest (x6::x0::x1::x2::x3::x4::x5::O) G):RG E ops Q rest (x0::x1::x2::x3::x4::x5::x6::O) G:=fun a w S st=>h a w S (st.own_map tz)
def Cx(h:AT E Q e (x6::x0::x1::x2::x3::x4::x5::O) G):AT E Q e (x0::x1::x2::x3::x4::x5::x6::O) G:=fun a w S st=>h a w S (st.own_map tz)
def A3{x7:OE}{O:List OE}(h:dg base B w S (x0::x1::x2::x3::x4::x5::x6::x7::O)):dg base B w S (x7::x0::x1::x2::x3::x4::x5::x6::O):=
 (sR h tz (fun f X=>by simp only [gB]at X ⊢;rcases X with h|h|h|h|h|h|h|h<;>simp [h])).swap
def IU{x7:OE}(h:RG E ops Q rest (x7::x0::x1::x2::x3::x4::x5::x6::O) G):RG E ops Q rest (x0::x1::x2::x3::x4::x5::x6::x7::O) G:=fun a w S st=>h a w S (st.own_map A3)
end

def d8(h:xs.set i y=zs):zs.length=xs.length:=by rw [<-h,BJ]
section
def gA(hl:m=n)(s:Nat)(hs:bM G s=some (tV (aL l cap n)))(k:RG E ops Q rest O ((s,tV (aL l cap m))::G)):RG E ops Q rest O G:=by
 subst hl
 exact fun a w S st=>k a w S (st.cons (st.facts.at_ s _ hs))
end

def lg{s:Rp γ}{o1 o2:Nat}{g1:α->β}{g2:β->γ}(Y:mj r o1 q g1)(J:mj q o2 s g2)(V:Nat.ble (o2+s.sz) q.sz=true:=by rfl):mj r (o1+o2) s (fun x=>g2 (g1 x)):=fun S cs x h=>by
 have Z:=J S _ _ (Y S cs x h)
 have hb' :=pz V
 rwa [zm,vI,p8,vh (by omega)]at Z
def xJ{s:Rp γ}{o1 o2:Nat}{g1:α->β}{u1:α->β->α}{u2:β->γ->β}(Y:mj r o1 q g1)(k1:ij r o1 q u1)(k2:ij q o2 s u2)(V:Nat.ble (o2+s.sz) q.sz=true:=by rfl)(hc:Nat.ble (o1+q.sz) r.sz=true:=by rfl):
  ij r (o1+o2) s (fun x y=>u1 x (u2 (g1 x) y)):=fun S cs x ds y h hy=>by
 have hb' :=pz V
 have hc' :=pz hc
 have hl:=r.len h
 have Z:=k1 S cs x _ _ h (k2 S _ _ ds y (Y S cs x h) hy)
 have e:cs.take (o1+o2)++ds++cs.drop (o1+o2+s.sz)=cs.take o1++(((cs.drop o1).take q.sz).take o2++ds++((cs.drop o1).take q.sz).drop (o2+s.sz))++cs.drop (o1+q.sz):=by
  rw [vI,vh (by omega),zm,p8,List.take_add,show o1+(o2+s.sz)=o1+o2+s.sz from by omega]
  simp only [jC]
  congr 3
  have e2:cs.drop (o1+q.sz)=(cs.drop (o1+o2+s.sz)).drop (q.sz-(o2+s.sz)):=by rw [p8];congr 1;omega
  rw [e2,sn]
 rw [e];exact Z

def fz(P:Program)(f:FuncId)(ts:List Ty)(O1:List OE){ι:Type}(t:ι->Ty)(O2:ι->List OE):Prop:=
 ∀w S vs,jA w S->tX S ts vs->dg 0 oW w S O1->Calls P f vs.toArray w fun en w' => ∃i v S',en= .returned v/\(t i).p S' v/\gU (fun k=> ∃f∈O1,f.fp k) w S w' S' /\jA w' S' /\dg 0 oW w' S' (O2 i)/\ ∀k,(∃f∈O2 i,f.fp k)->(∃f∈O1,f.fp k)\/w.heap.size<=k
def MS(E:En)(O1:List OE){ι:Type}(t:ι->Ty)(O2:ι->List OE):Ending->World->Prop:=fun en w' =>
 ∃i v S',en= .returned v/\(t i).p S' v/\gU E.B E.w0 E.S0 w' S' /\jA w' S' /\dg 0 oW w' S' (O2 i)/\ ∀k,(∃f∈O2 i,f.fp k)->(∃f∈O1,f.fp k)\/E.w0.heap.size<=k
def xd(O1:List OE):Nat->Prop:=fun k=> ∃f∈O1,f.fp k
def fz.of{t:ι->Ty}(X:P.funcs[f]? =some fn)(V:fn.body=some c)(hN:fn.ntmps=N)(hn:Nat.ble ts.length N=true)(h: ∀w0 S0,CG ⟨P,⟨N,[]⟩,xd O1,w0,S0,none⟩ (bodyPost P fn (MS ⟨P,⟨N,[]⟩,xd O1,w0,S0,none⟩ O1 t O2)) c O1 (sO 0 ts)):fz P f ts O1 t O2:=by
 subst hN
 intro w S vs hs hv ho
 exact mf.1 (callsIn_of_wp (F:=fw none) (n:=0) X V trivial (h w S _ w S ⟨gU.refl _ _ _,hs,mI ho fun f X k hk=> .inr ⟨f,X,hk⟩,o3 hv _ (pz hn)⟩))
def HA{t:ι->Ty}{v:Value}(st:St E O G a w S)(hB:E.B=xd O1)(i:ι)(hO:O=O2 i)(hv:(t i).p S v):MS E O1 t O2 (.returned v) w:=by
 subst hO
 refine⟨i,v,S,rfl,hv,st.ext,st.sat,st.own.weak,fun k ⟨f,X,hk⟩=>?_⟩
 rcases(dg.mem st.own f X).2 k hk with h|h
 ·exact .inr h
 ·rw [hB]at h;exact .inl h
section
variable{t:ι->Ty}
def m9{k:Nat}{u:Ty}(hr:fn.results= #[.tmp k])(i:ι)(hO:O=O2 i)(hk:bM G k=some u)(hu: ∀S v,u.p S v->(t i).p S v):
  AT ⟨P,⟨N,[]⟩,xd O1,w0,S0,none⟩ (bodyPost P fn (MS ⟨P,⟨N,[]⟩,xd O1,w0,S0,none⟩ O1 t O2)) .ret O G:=fun _ _ S st=>
 ⟨st.facts.defers,_,nc P fn k hr _ _,HA st rfl i hO (hu S _ (st.facts.at_ k u hk))⟩
end
def xu: ∀{O1 O2:List OE},dg base B w S O1->dg base B w S O2->(∀e∈O1,∀f∈O2,e.apart f)->dg base B w S (O1++O2)
 |[],_,_,h,_=>h
 |e::O1,O2,⟨Y,J,Z⟩,h,ha=>⟨Y,fun f X=>(p9.1 X).elim (J f) (ha e (mp ..) f),xu Z h fun g T f X=>ha g (nu _ T) f X⟩
section
variable{ty:TypeId}
def St.turn{Or O2:List OE}(st:St E (O1++Or) G a w S)(I:gU (fun k=> ∃f∈O1,f.fp k) w S w' S')(hs:jA w' S')(ho:dg 0 oW w' S' O2)(hn: ∀k,(∃f∈O2,f.fp k)->(∃f∈O1,f.fp k)\/w.heap.size<=k):St E (O2++Or) G a w' S' :=by
 obtain⟨Y,J,Z⟩:=mH st.own
 have hbl:=st.base_le
 refine⟨st.ext.step I (fun b ⟨f,X,V⟩=>(dg.mem Y f X).2 b V),hs,xu (mI ho fun f X k hk=>?_) (J.ext I fun f X b V ⟨g,T,hgb⟩=>Z g T f X b hgb V) (fun e he f X b heb hfb=>?_),st.facts.mono I.keep⟩
 ·rcases hn k ⟨f,X,hk⟩with⟨g,T,hgk⟩|h
  ·exact(dg.mem Y g T).2 k hgk
  ·exact .inl (xy hbl h)
 ·rcases hn b ⟨e,he,heb⟩with⟨g,T,hgb⟩|h
  ·exact Z g T f X b hgb hfb
  ·have:=f.here (dg.mem J f X).1 b hfb
   omega
def xr{xs:List Operand}(O1 Or:List OE){t:ι->Ty}(hO:O=O1++Or)(hc:al E.P f=true)(hs:fz E.P f ts O1 t O2)(I:il E.N G xs ts)(hd:Nat.blt d E.N.n=true)(k: ∀i,RG E ops Q rest (O2 i++Or) ((d,t i)::G)):
  RG E ops Q (⟨some d,.call ⟨.value (.func f),xs.toArray,ats⟩,ty,pos,after,none⟩::rest) O G:= .of rfl fun a w S st=>by
 subst hO
 have hr:(execOp a.eval ⟨some d,.call ⟨.value (.func f),xs.toArray,ats⟩,ty,pos,after,none⟩).run E.P w= .ok (.enter f (xs.map a.eval).toArray) w:=by
  simp [execOp,resolve,Act.eval,Deferred.ofValue,invoke,fE hc]
 refine⟨fun c h=>(by cases h),?_⟩
 rw [hr]
 refine(hs w S _ st.sat (I.tys st.facts) (mH st.own).1.weak).mono fun en w' ⟨i,v,S',he,hv,Y,J,Z,h4⟩=>⟨_,he,?_⟩;exact k i _ _ S' ((st.turn Y J Z h4).put hd hv)
end

structure OI where
 h:Nat->Option Nat×Nat:=fun _=>(none,0)
 os:List (Option Nat×Nat):=[]
 fp:Nat->Prop:=oW
 v:Value:=undef
 ng:Nat->(Option Nat×Nat)×(Nat->Option Nat×Nat):=fun _=>((none,0),fun _=>(none,0))
def qt:OI:={}
def oi(l:Option Nat)(c:Nat):OI:={h:=fun _=>(l,c)}
def EffOK(E:En)(O:List OE)(need:jZ)(o:Oper)(post:OI->List OE)(t:OI->Ty):Prop:=
 ∀a w S,jA w S->dg E.base E.B w S O->cW E.N S a need->E.base<=w.heap.size->
  Ef E.P o a w (fun a' w' => ∃v S' x,a' =a.put o.dst v/\gU (xd O) w S w' S' /\jA w' S' /\dg E.base E.B w' S' (post x)/\(t x).p S' v)
variable{post:OI->List OE}{t' :TypeId}
section
variable{ty:TypeId}
def GB{y:Operand}{u:OI->Ty}(ti:TI E.P hg sz bytes agg z)(hsz:r.sz=sz)(hz:Nat.beq z.length sz=true)(h0:Nat.blt 0 sz=true)(h128:Nat.ble bytes 2048=true)(D:E.P.underlying t=some (.slice hg))(I:aF E.N G x (tV (aL l cap n)))(hy: ∀a w S,jA w S->cW E.N S a G-> ∃news,Src E.P r.sz t' (a.eval y) ys.length news w/\qS r S news ys)(happ:jT xs ys=some zs)(hu: ∀l' cap' w0 S,(jS mm r hg l' cap' zs).p w0 S->(u (oi l' cap')).p S (aL l' cap' zs.length))(hn:n=xs.length):
  EffOK E (jS mm r hg l cap xs::O) G ⟨some d,.call ⟨.builtin .append,#[x,y],#[t,t']⟩,ty,pos,after,g⟩ (fun i=>jS mm r hg (i.h 0).1 (i.h 0).2 zs::O) u:=fun a w S hs ho X V=>by
 subst hn
 have Y:a.eval x=aL l cap xs.length:=I S a X
 obtain⟨news,J,Z⟩:=hy a w S hs X
 obtain⟨l',cap',w',S',hr,hext,hsat,hh,hnew⟩:=ut (ty:=ty) ti hsz hz h0 h128 D hs ho.1 V J Z happ
 have hrun:(execOp a.eval ⟨some d,.call ⟨.builtin .append,#[x,y],#[t,t']⟩,ty,pos,after,g⟩).run E.P w= .ok (.value (aL l' cap' zs.length)) w' :=by
  simp [execOp,resolve,invoke,builtin,Y,hr]
 refine⟨fun c h=>(by cases h),?_⟩
 rw [hrun]
 refine⟨_,S',oi l' cap',rfl,hext.more fun b V=>⟨_,mp ..,V⟩,hsat,⟨hh,fun f X b V hfb=>?_,ho.2.2.ext hext fun f X b V hbl=>ho.2.1 f X b hbl V⟩,hu l' cap' w' S' hh.1⟩
 rcases hnew b V with h|h
 ·exact ho.2.1 f X b h hfb
 ·have:=f.here (dg.mem ho.2.2 f X).1 b hfb
  omega
def yS{y:Operand}(ti:TI E.P hg sz bytes agg z)(hsz:r.sz=sz)(hz:Nat.beq z.length sz=true)(h0:Nat.blt 0 sz=true)(h128:Nat.ble bytes 2048=true)(D:E.P.underlying t=some (.slice hg))(ht' :t' =t)(I:aF E.N G x (tO r l cap xs))(hy:aF E.N G y (H (gJ r) ys))(happ:jT xs ys=some zs):
  EffOK E (hX r hg l cap xs::O) G ⟨some d,.call ⟨.builtin .append,#[x,y],#[t,t']⟩,ty,pos,after,g⟩ (fun i=>hX r hg (i.h 0).1 (i.h 0).2 zs::O) (fun i=>tO r (i.h 0).1 (i.h 0).2 zs):=by
 subst ht'
 exact GB ti hsz hz h0 h128 D (wH I) (fun a w S hs X=>uj D hs (hy S a X)) happ (fun _ _ _ _ h=>⟨rfl,pC h⟩) rfl
def IG{xs:List Operand}{u:OI->Ty}(hc:al E.P f=true)(hs:gP E.P f ts mm r hg ys)(I:il E.N G xs ts)(hu: ∀l cap w0 S,(jS mm r hg l cap ys).p w0 S->(u (oi l cap)).p S (aL l cap ys.length)):
  EffOK E O G ⟨some d,.call ⟨.value (.func f),xs.toArray,ats⟩,ty,pos,after,g⟩ (fun i=>jS mm r hg (i.h 0).1 (i.h 0).2 ys::O) u:=fun a w S hsat ho X V=>by
 have hr:(execOp a.eval ⟨some d,.call ⟨.value (.func f),xs.toArray,ats⟩,ty,pos,after,g⟩).run E.P w= .ok (.enter f (xs.map a.eval).toArray) w:=by
  simp [execOp,resolve,Act.eval,Deferred.ofValue,invoke,fE hc]
 refine⟨fun c h=>(by cases h),?_⟩
 rw [hr]
 exact(hs w S _ hsat (I.tys X)).mono fun e w' ⟨l,cap,S',he,Y,J,Z⟩=>⟨_,he,_,S',oi l cap,rfl,Y.more fun _ V=>V.elim,J,rt ho Y Z.1 (fun b V=>(Z.2 b V).resolve_right id) V,hu l cap w' S' Z.1⟩
def dg.turn{Or O2:List OE}(h:dg base B w S (O1++Or))(hbl:base<=w.heap.size)(I:gU (xd O1) w S w' S')(ho:dg 0 oW w' S' O2)(hn: ∀k,(∃f∈O2,f.fp k)->(∃f∈O1,f.fp k)\/w.heap.size<=k):dg base B w' S' (O2++Or):=by
 obtain⟨Y,J,Z⟩:=mH h
 refine xu (mI ho fun f X k hk=>?_) (J.ext I fun f X b V ⟨g,T,hgb⟩=>Z g T f X b hgb V) (fun e he f X b heb hfb=>?_)
 ·rcases hn k ⟨f,X,hk⟩with⟨g,T,hgk⟩|h
  ·exact(dg.mem Y g T).2 k hgk
  ·exact .inl (xy hbl h)
 ·rcases hn b ⟨e,he,heb⟩with⟨g,T,hgb⟩|h
  ·exact Z g T f X b hgb hfb
  ·have:=f.here (dg.mem J f X).1 b hfb
   omega
def IF{xs:List Operand}(O1 Or:List OE){t:OI->Ty}{O2:OI->List OE}(hO:O=O1++Or)(hc:al E.P f=true)(hs:fz E.P f ts O1 t O2)(I:il E.N G xs ts)(hpost: ∀i,O2 i++Or=post i):
  EffOK E O G ⟨some d,.call ⟨.value (.func f),xs.toArray,ats⟩,ty,pos,after,g⟩ post t:=fun a w S hsat ho X V=>by
 subst hO
 obtain rfl:(fun i=>O2 i++Or)=post:=funext hpost
 have hr:(execOp a.eval ⟨some d,.call ⟨.value (.func f),xs.toArray,ats⟩,ty,pos,after,g⟩).run E.P w= .ok (.enter f (xs.map a.eval).toArray) w:=by
  simp [execOp,resolve,Act.eval,Deferred.ofValue,invoke,fE hc]
 refine⟨fun c h=>(by cases h),?_⟩
 rw [hr]
 exact(hs w S _ hsat (I.tys X) (mH ho).1.weak).mono fun en w' ⟨i,v,S',he,hv,Y,J,Z,h4⟩=>⟨_,he,v,S',i,rfl,Y.more fun b ⟨f,X,V⟩=>⟨f,BN _ X,V⟩,J,dg.turn ho V Y Z h4,hv⟩
def GS{op:Op}{t:OI->Ty}(h:EffOK E O G ⟨some d,op,ty,pos,after,none⟩ post t)(hd:Nat.blt d E.N.n=true)(k: ∀x:OI,RG E ops Q rest (post x) ((d,t x)::G)):RG E ops Q (⟨some d,op,ty,pos,after,none⟩::rest) O G:= .of rfl fun a w S st=>
 my (fun a' w' ⟨v,S',x,ha,I,hs,ho,hv⟩=>by
  subst ha
  exact k x _ _ S' ⟨st.ext.step I fun b ⟨f,X,V⟩=>(dg.mem st.own f X).2 b V,hs,ho,(st.facts.mono I.keep).put hd hv⟩) (h a w S st.sat st.own st.facts st.base_le)
end

def Fu(σ:Nat->OI)(k:Nat)(x:OI):Nat->OI:=fun j=>bif Nat.beq j k then x else σ j
def Jo(σ:Nat->OI)(k:Nat)(x:OI):Fu σ k x k=x:=by simp [Fu]
def zL(σ:Nat->OI){k j:Nat}(x:OI)(h:j≠k):Fu σ k x j=σ j:=by
 have:Nat.beq j k=false:=by
  cases V:Nat.beq j k with
  |false=>rfl
  |true=>exact absurd (nL V) h
 simp [Fu,this]
structure NE where
 slot:Nat
 ty:(Nat->OI)->Ty
 src:Option Nat
def RA(G:jZ)(ts:List (OI->Ty))(n:NE):Prop:=
 match n.src with
 |some j=> ∀σ,(ts[j]?).map (fun f=>f (σ j))=some (n.ty σ)
 |none=> ∀σ,bM G n.slot=some (n.ty σ)
def HO(G:jZ)(ts:List (OI->Ty)):List NE->Prop
 |[]=>True
 |n::l=>RA G ts n/\HO G ts l
def HO.mem{ts:List (OI->Ty)}: ∀{l:List NE},HO G ts l-> ∀n∈l,RA G ts n
 |_::_,⟨h,_⟩,_,.head _=>h
 |_::_,⟨_,h⟩,_,.tail _ hm=>HO.mem h _ hm
def mn(E:En)(ops:Array Oper)(O:List OE)(need:jZ)(o:Oper)(post:OI->List OE)(t:OI->Ty):Prop:=
 ∀a w S,jA w S->dg E.base E.B w S O->cW E.N S a need->E.base<=w.heap.size->
  if Region.wanted o (yielded ops a.tmps)then Ef E.P o a w (fun a' w' => ∃v S' x,a' =a.put o.dst v/\gU (xd O) w S w' S' /\jA w' S' /\dg E.base E.B w' S' (post x)/\(t x).p S' v)
  else∃x,dg E.base E.B w S (post x)/\(t x).p S undef
def cD{need:jZ}{t:OI->Ty}(T:o.guard=none)(h:EffOK E O need o post t):mn E ops O need o post t:=fun a w S hs ho X V=>by
 have:Region.wanted o (yielded ops a.tmps)=true:=by unfold Region.wanted;rw [T]
 rw [this,bE rfl]
 exact h a w S hs ho X V
def fX(es:List Bool)(i:Nat):Nat:=(es.take i).countP (· ==true)
def GI(L:List Oper)(es:List Bool):Bool:=(List.range es.length).all fun i=>(List.range i).all fun j=> !((es[i]?).getD false&&(es[j]?).getD false)||lK L L.length i j
structure SW(E:En)(G:jZ)(l:List Oper)(ts:List (OI->Ty))(Om:Nat->(Nat->OI)->List OE)(es:List Bool)(done:Array Bool)(a:Act)(w:World)(S:SH)(σ:Nat->OI)(c:Nat):Prop where
 ext:gU E.B E.w0 E.S0 w S
 sat:jA w S
 own:dg E.base E.B w S (Om c σ)
 size:a.tmps.size=E.N.n
 defers:a.defers=E.N.ds
 dsz:done.size=l.length
 down: ∀j o,l[j]? =some o->done.getD j false=true-> ∀e∈o.after,Region.binds .any e=true->done.getD e.on false=true
 old: ∀k t,bM G k=some t->(∀j o,l[j]? =some o->done.getD j false=true->o.dst≠some k)->t.p S (a.tmps.getD k undef)
 new: ∀j o d f,l[j]? =some o->done.getD j false=true->o.dst=some d->ts[j]? =some f->(f (σ j)).p S (a.tmps.getD d undef)
 chain: ∀k,es[k]? =some true->(done.getD k false=true↔fX es k<c)
variable{es:List Bool}
def A1: ∀{i j:Nat},i<j->es[i]? =some true->fX es i<fX es j:=by
 induction es with
 |nil=>intro i j _ h;simp at h
 |cons e es ih=>
  intro i j hij h
  cases j with
  |zero=>omega
  |succ j=>
   cases i with
   |zero=>simp at h;subst h;simp [fX]
   |succ i=>
    have:=ih (i:=i) (j:=j) (by omega) (by simpa using h)
    cases e<;>simp [fX]at this ⊢ <;>omega
def tw: ∀{c k:Nat},c<fX es k-> ∃i,i<k/\es[i]? =some true/\fX es i=c:=by
 induction es with
 |nil=>intro c k h;simp [fX]at h
 |cons e es ih=>
  intro c k h
  cases k with
  |zero=>simp [fX]at h
  |succ k=>
   cases e with
   |false=>
    obtain⟨i,Y,J,Z⟩:=ih (c:=c) (k:=k) (by simpa [fX] using h)
    exact⟨i+1,by omega,by simpa using J,by simpa [fX] using Z⟩
   |true=>
    cases c with
    |zero=>exact⟨0,by omega,rfl,by simp [fX]⟩
    |succ c=>
     obtain⟨i,Y,J,Z⟩:=ih (c:=c) (k:=k) (by simp [fX]at h ⊢;omega)
     exact⟨i+1,by omega,by simpa using J,by simp [fX]at Z ⊢;omega⟩
section
variable{ts:List (OI->Ty)}{Om:Nat->(Nat->OI)->List OE}
def SW.step{σ:Nat->OI}{c c' :Nat}(h:SW E G L ts Om es done a w S σ c){f:OI->Ty}{v:Value}{x:OI}{C:Nat->Prop}(hi:L[i]? =some o)(hd:o.dst=some d)(hdN:d<E.N.n)(hs2: ∀j p,L[j]? =some p->done.getD j false=true->p.dst=some d->i=j)(hwait: ∀e∈o.after,Region.binds .any e=true->done.getD e.on false=true)(D:ts[i]? =some f)(hun:done.getD i true=false)(hext:gU C w S w' S')(hC: ∀b,C b->E.base<=b\/E.B b)(hsat:jA w' S')(hown:dg E.base E.B w' S' (Om c' (Fu σ i x)))(hv:(f x).p S' v)(hch: ∀k,es[k]? =some true->((done.setIfInBounds i true).getD k false=true↔fX es k<c')):
  SW E G L ts Om es (done.setIfInBounds i true) (a.put o.dst v) w' S' (Fu σ i x) c' :=by
 have hda:d<a.tmps.size:=by rw [h.size];exact hdN
 have hlt:i<done.size:=by rw [h.dsz];exact(qr.1 hi).1
 have hset: ∀j,(done.setIfInBounds i true).getD j false=true->j=i\/done.getD j false=true:=fun j hj=>by
  by_cases hij:i=j
  ·exact .inl hij.symm
  ·rw [sv false hij]at hj;exact .inr hj
 have hseti:(done.setIfInBounds i true).getD i false=true:=by simp [hlt]
 have hun' :done.getD i false=false:=by simp [hlt]at hun ⊢;exact hun
 refine⟨h.ext.step hext hC,hsat,hown,?_,?_,by simp [h.dsz],fun j p hj hdone e he V=>?_,fun k u hk hno=>?_,fun j p d' u hj hdone hd' hu=>?_,hch⟩
 ·rw [hd];simp [Act.put,h.size]
 ·rw [hd];exact h.defers
 ·rcases hset j hdone with rfl|hj'
  ·rw [hi]at hj
   have:o=p:=by simpa using hj
   subst this
   exact sX (hwait e he V)
  ·exact sX (h.down j p hj hj' e he V)
 ·have hne:d≠k:=fun e=>hno i o hi hseti (by rw [hd,e])
  rw [hd,pl hda,bn hne]
  exact u.mono hext.keep (h.old k u hk fun j p hj hdone=>hno j p hj (sX hdone))
 ·rw [hd,pl hda]
  by_cases hij:j=i
  ·subst hij
   rw [hi]at hj
   have:o=p:=by simpa using hj
   subst this
   rw [hd]at hd'
   have:d=d' :=by simpa using hd'
   subst this
   rw [bE rfl]
   rw [D]at hu
   have:f=u:=by simpa using hu
   subst this
   rw [Jo]
   exact hv
  ·have hj' :=(hset j hdone).resolve_left hij
   have hne:d≠d' :=fun e=>by
    subst e
    have:=hs2 j p hj hj' hd'
    exact hij this.symm
   rw [bn hne,zL σ x hij]
   exact Ty.mono _ hext.keep (h.new j p d' u hj hj' hd' hu)
end

section
variable{ty:TypeId}
def B2(D:E.P.underlying t=some (.slice e))(I:aF E.N G x (tV (.slice none 0 0))):bT E O G ⟨dst,.call ⟨.builtin .len,#[x],#[t]⟩,ty,pos,after,g⟩ (H (rI .i64) (0:Int)):=
 .of_pure fun a w S _ _ X=>by
  have Y:a.eval x= .slice none 0 0:=I S a X
  refine⟨.int .i64 0,?_,fq.2 rfl⟩
  simp [execOp,resolve,invoke,builtin,Builtin.len_,jB D,Y,goInt]
def B3(D:E.P.underlying t=some (.slice e))(I:aF E.N G x (tV (.slice none 0 0))):bT E O G ⟨dst,.call ⟨.builtin .cap,#[x],#[t]⟩,ty,pos,after,g⟩ (H (rI .i64) (0:Int)):=
 .of_pure fun a w S _ _ X=>by
  have Y:a.eval x= .slice none 0 0:=I S a X
  refine⟨.int .i64 0,?_,fq.2 rfl⟩
  simp [execOp,resolve,invoke,builtin,Builtin.cap_,jB D,Y,goInt]
def Eh{hi:Operand}(D:E.P.underlying t=some (.slice hg))(ti:TI E.P hg sz bytes agg z)(I:aF E.N G x (tV (.slice none 0 0)))(hhi:aF E.N G hi (H (rI k) (0:Int))):
  bT E O G ⟨dst,.slice t x none (some hi) none,ty,pos,after,g⟩ (tV (.slice none 0 0)):=
 .of_pure fun a w S _ _ X=>by
  have Y:a.eval x= .slice none 0 0:=I S a X
  have h6:=fq.1 (hhi S a X)
  refine⟨.slice none 0 0,?_,rfl⟩
  have V:=iE (P:=E.P) (w:=w) (k:=k) (n:=(0:Int)) (y:=0) (code:= .sliceAcap) (by omega) (by omega)
  simp [execOp,Instr.sliceAt,Y,h6,Instr.slice,jB D,Instr.sliceBounds,V,iE (k:=k) (n:=(0:Int)) (y:=0) (by omega) (by omega),ti.sizeOf]
end

def zA{α:Type}(n:Int)(z:α):Option (List α):=if 0<=n/\n<=68719476736 then some (List.replicate n.toNat z)else none
def DI{n:Int}{z:α}(h:zA n z=some zs): ∃m:Nat,n=m/\m<=68719476736/\zs=List.replicate m z:=by
 unfold zA at h
 split at h
 ·rename_i hc;exact⟨n.toNat,by omega,by omega,by simpa using h.symm⟩
 ·cases h
def xR{α:Type}{r:Rp α}{x:α}{z:List Value}(I: ∀S,r.rc S z x)(S:SH): ∀n:Nat,qS r S (List.replicate n z).flatten (List.replicate n x)
 |0=>rfl
 |n+1=>⟨z,_,by rw [List.replicate_succ,List.flatten_cons],I S,xR I S n⟩
def Ap(z:List Value):(List.range z.length).map (fun i=>z[i%z.length]?.getD default)=z:=by
 apply BM
 intro k
 rcases lz k z.length with h|h
 ·rw [yw,List.getElem?_range h]
  simp [Nat.mod_eq_of_lt h,h]
 ·rw [zz (by simpa using h),zz h]
def oM(z:List Value)(n:Nat):(Builtin.zeroCells z.toArray n).toList=(List.replicate n z).flatten:=by
 unfold Builtin.zeroCells
 simp
 induction n with
 |zero=>simp
 |succ n ih=>
  rw [List.replicate_succ,List.flatten_cons,<-ih,Nat.succ_mul,Nat.add_comm,List.range_add,yX,Ap,yq]
  congr 1
  apply Bn
  intro i _
  simp
section
variable{ty:TypeId}
def flat_len(h:z.length=sz)(n:Nat):(List.replicate n z).flatten.length=n*sz:=by
 simp [h]
def Fc{x:α}{n:Int}{s y:Operand}{kn:IntKind}(ti:TI E.P hg sz bytes agg z)(hsz:r.sz=sz)(hz:Nat.beq z.length sz=true)(h0:Nat.blt 0 sz=true)(h128:Nat.ble bytes 2048=true)(D:E.P.underlying t=some (.slice hg))(ht' :E.P.underlying t' =some (.int kn))(I: ∀S,r.rc S z x)(hs' :aF E.N G s (tV (.slice none 0 0)))(hy:aF E.N G y (H (rI k) n))(hn:0<n)(h:zA n x=some zs):
  EffOK E O G ⟨some d,.call ⟨.builtin .append,#[s,y],#[t,t']⟩,ty,pos,after,g⟩ (fun i=>fD r hg (i.h 0).1 (i.h 0).2 zs::O) (fun i=>tV (aL (i.h 0).1 (i.h 0).2 zs.length)):=fun a w S hs ho X V=>by
 subst hsz
 obtain⟨i,zv,hi,Y,J,Z,h4⟩:=ti.get
 obtain⟨m,rfl,hm,rfl⟩:=DI h
 have hsv:a.eval s= .slice none 0 0:=hs' S a X
 have hyv:=fq.1 (hy S a X)
 have hz2:z.length=r.sz:=nL hz
 have h128' :=pz h128
 have h0' :0<r.sz:=by simpa [tM] using h0
 have hbytes:m*i.bytes<=281474976710656:=by
  have:m*i.bytes<=68719476736*2048:=Nat.mul_le_mul hm (by omega)
  omega
 have hr:=Lib.run_append_nil_zeros (P:=E.P) w t t' ty hg i zv k kn D ht' hi Z m (by omega) (by omega) (by omega) hbytes
 have hge:=grownCap_ge w m 0 hg
 have hle:=grownCap_le_maxLen w m 0 hg (by simp only [maxLen];omega)
 generalize grownCap w m 0 hg=cp at hr hge hle
 obtain⟨C,hC⟩: ∃C,Builtin.zeroCells zv.cells m++Builtin.zeroCells zv.cells (cp-m)=C:=⟨_,rfl⟩
 rw [hC]at hr
 obtain⟨he0,hs0⟩:=uP (w:=w) hs
 obtain⟨he,hs2,hno⟩:=iy (w:=w.drew) (.cells C hg (0,0)) hs0
 have hx2:gU oW w S (w.drew.alloc (.cells C hg (0,0))) S:=he0.trans he
 have hrun:(execOp a.eval ⟨some d,.call ⟨.builtin .append,#[s,y],#[t,t']⟩,ty,pos,after,g⟩).run E.P w= .ok (.value (.slice (some ⟨w.heap.size,0,none⟩) m cp)) (w.drew.alloc (.cells C hg (0,0))):=by
  simp [execOp,resolve,invoke,builtin,hsv,hyv,hr]
 refine⟨fun c h=>(by cases h),?_⟩
 rw [hrun]
 have hfl:=flat_len hz2 m
 have hC1:C.toList=(List.replicate m z).flatten++(List.replicate (cp-m) z).flatten:=by
  rw [<-hC,Array.toList_append,h4,oM,oM]
 refine⟨_,S,oi (some w.heap.size) cp,rfl,hx2.more fun _ V=>V.elim,hs2,rt ho hx2 (e:=fD r hg (some w.heap.size) cp (List.replicate m x)) ⟨(List.replicate m z).flatten,⟨C,wF w.drew _,by simpa using hge,hle,?_,?_⟩,xR I S m,fun b V=>by rw [<-qa V];exact hno⟩ (fun b V=>zu (qa V)) V,?_⟩
 ·have:C.toList.length=cp*r.sz:=by
   rw [hC1,jO,hfl,flat_len hz2,<-tY];congr 1;omega
  simpa using this
 ·rw [hC1,List.length_replicate,<-hfl,List.take_left]
 ·show _=aL _ _ _
  rw [List.length_replicate];rfl

def IV{x:α}{y:Operand}(ti:TI E.P hg sz bytes agg z)(hsz:r.sz=sz)(hz:Nat.beq z.length sz=true)(D:E.P.underlying t=some (.slice hg))(I: ∀S,r.rc S z x)(hone:z.all (·.oneCell')=true)(hs:dk xs lo (xs.length:Int)=some ys)(hy:aF E.N G y (tV (mR sz l cap lo.toNat ys.length)))(hzs:xs.take lo.toNat++List.replicate ys.length x=zs)(k:RG E ops Q rest (fD r hg l cap zs::O) G):
  RG E ops Q (⟨none,.call ⟨.builtin .clear,#[y],#[t]⟩,ty,pos,after,none⟩::rest) (fD r hg l cap xs::O) G:= .of rfl fun a w S st=>by
 subst hsz
 subst hzs
 obtain⟨i,zv,hi,Y,J,Z,h4⟩:=ti.get
 have hyv:a.eval y=mR r.sz l cap lo.toNat ys.length:=hy S a st.facts
 have hz2:z.length=r.sz:=nL hz
 obtain⟨lo',m,rfl,hm,h5,h6,rfl⟩:=ft hs
 have hm' :m=xs.length:=by omega
 subst hm'
 rw [zr]at hyv k
 rw [t8]at hyv k
 by_cases hnil:xs.drop lo' =[]
 ·have hlo:xs.length<=lo' :=Bp.1 hnil
  rw [hnil]at hyv k
  have e1:xs.take lo' ++List.replicate ([]:List α).length x=xs:=by simp [nM hlo]
  rw [e1]at k
  have hrun:(execOp a.eval ⟨none,.call ⟨.builtin .clear,#[y],#[t]⟩,ty,pos,after,none⟩).run E.P w= .ok (.value (.tuple #[])) w:=by
   cases l<;>simp [execOp,resolve,invoke,builtin,Builtin.clear_,jB D,hyv,mR]
  refine⟨fun c h=>(by cases h),?_⟩
  rw [hrun]
  exact k _ _ S st
 ·obtain⟨⟨cells,hraw,hrc,hno⟩,hbase⟩:=st.own.1
  have hlt:lo' <xs.length:=by
   rcases lz lo' xs.length with h|h
   ·exact h
   ·exact absurd (CA h) hnil
  cases l with
  |none=>have:=hraw.1;omega
  |some b=>
   obtain⟨cur,g1,g2,g3,g4,g5⟩:=hraw
   have hno' :S b=none:=hno b rfl
   have hne: ¬(cap=lo'):=by omega
   have hld:(xs.drop lo').length=xs.length-lo' :=by simp
   have hfl:=flat_len hz2 (xs.length-lo')
   have hones: ∀u∈(List.replicate (xs.length-lo') z).flatten,u.oneCell' =true:=by
    intro u hu
    obtain⟨q,hq,hu⟩:=List.mem_flatten.1 hu
    rw [(List.mem_replicate.1 hq).2]at hu
    exact jV.1 hone u hu
   have hmul:xs.length*r.sz<=cur.size:=by rw [g4];exact wD _ g2
   have hfit:lo' *r.sz+(xs.length-lo')*r.sz=xs.length*r.sz:=by rw [<-tY];congr 1;omega
   have hst:=run_storeCells_at E.P b (lo' *r.sz) hg (List.replicate (xs.length-lo') z).flatten 0 cur w g1 (by omega) hones
   simp only [tZ]at hst
   have hrun:(execOp a.eval ⟨none,.call ⟨.builtin .clear,#[y],#[t]⟩,ty,pos,after,none⟩).run E.P w= .ok (.value (.tuple #[])) (w.setRow b (cur.toList.take (lo' *r.sz)++(List.replicate (xs.length-lo') z).flatten++cur.toList.drop (lo' *r.sz+(List.replicate (xs.length-lo') z).flatten.length)).toArray):=by
    have e1: ∃q,xs.length-lo' =q+1:=⟨xs.length-lo' -1,by omega⟩
    obtain⟨q,hq⟩:=e1
    have e2:a.eval y= .slice (some ⟨b,lo' *r.sz,none⟩) (q+1) (cap-lo'):=by rw [hyv,hld,hq];simp [mR,hne]
    rw [hq]at hst ⊢
    simp [execOp,resolve,invoke,builtin,Builtin.clear_,jB D,e2,zeroValue,typeInfo,hi,Z,h4,oM,hst]
   refine⟨fun c h=>(by cases h),?_⟩
   rw [hrun]
   have hset:=setRow_heap w b cur (cur.toList.take (lo' *r.sz)++(List.replicate (xs.length-lo') z).flatten++cur.toList.drop (lo' *r.sz+(List.replicate (xs.length-lo') z).flatten.length)).toArray hg _ g1
   have hl2:(xs.take lo' ++List.replicate (xs.drop lo').length x).length=xs.length:=by simp;omega
   have hsp:qS r S (cells.take (lo' *r.sz)) (xs.take lo'):=by
    have e:xs=xs.take lo' ++xs.drop lo' :=(sn _ _).symm
    rw [e]at hrc
    have:=(oS hrc).1
    rwa [show(xs.take lo').length=lo' from by simp;omega]at this
   have hcl:((cur.toList.take (lo' *r.sz)++(List.replicate (xs.length-lo') z).flatten++cur.toList.drop (lo' *r.sz+(List.replicate (xs.length-lo') z).flatten.length)).toArray).toList.take ((xs.take lo' ++List.replicate (xs.drop lo').length x).length*r.sz)=cells.take (lo' *r.sz)++(List.replicate (xs.length-lo') z).flatten:=by
    rw [hl2,<-g5,vI,vh (wD _ (by omega))]
    have hlen1:(cur.toList.take (lo' *r.sz)++(List.replicate (xs.length-lo') z).flatten).length=xs.length*r.sz:=by
     rw [jO,hfl,zq,yx,vh (by omega)];exact hfit
    rw [<-hlen1,List.take_left]
   obtain⟨q1,q2,q3⟩:=nD (O:=O) st.sat (fD r hg (some b) cap xs) (fD r hg (some b) cap (xs.take lo' ++List.replicate (xs.drop lo').length x)) st.own (fun k=>⟨fun h=>(qa h).symm,fun h=>by rw [h];rfl⟩) (fun k=>⟨fun h=>(qa h).symm,fun h=>by rw [h];rfl⟩)
    (w' :=w.setRow b (cur.toList.take (lo' *r.sz)++(List.replicate (xs.length-lo') z).flatten++cur.toList.drop (lo' *r.sz+(List.replicate (xs.length-lo') z).flatten.length)).toArray) ⟨rfl,rfl,rfl,by simp [World.setRow],dr _⟩ (fun k hk=>setRow_other w b k _ hk)
    ⟨cells.take (lo' *r.sz)++(List.replicate (xs.length-lo') z).flatten,⟨_,hset,by rw [hl2];exact g2,g3,by simp only [BL,jO,zq,Bj,yx];omega,hcl⟩,by rw [hld];exact ta hsp (xR I S _),fun k hk=>by rw [<-qa hk];exact hno'⟩ hno'
   ·exact k _ _ S ⟨st.ext.step q1 (fun c hc=>hbase c (by rw [hc];rfl)),q2,q3,st.facts⟩
end

def nQ{α:Type}(r:Rp α)(n:Nat):Rp (List α) where
 sz:=n*r.sz
 agg:=true
 rc:=fun S cs xs=>xs.length=n/\qS r S cs xs
 mono:=fun h ⟨Y,J⟩=>⟨Y,qR h J⟩
 len:=fun⟨Y,J⟩=>by rw [mw J,Y]
 one:=fun⟨_,J⟩=>zh J
 sc:=fun h=>by cases h
section
section
variable{ty:TypeId}
def pm{i:Int}(D:E.P.underlying t=some (.array n e))(ti:TI E.P e sz bytes agg z)(hsz:r.sz=sz)(I:aF E.N G x (bC (nQ r n) xs))(hi:aF E.N G ix (H (rI k) i))(hy:cU xs i=some y):
  bT E O G ⟨dst,.indexAddr t x ix,ty,pos,after,g⟩ (bC r y):=
 .of_pure fun a w S _ _ X=>by
  subst hsz
  obtain⟨b,off,c,hg,fr,Y,J,Z,h4⟩:=I S a X
  have h5:a.eval ix= .int k i:=fq.1 (hi S a X)
  obtain⟨h0,hy'⟩:=iT hy
  have hlt:i.toNat<xs.length:=(qr.1 hy').1
  have hc:0<=i/\i<(n:Int):=⟨h0,by omega⟩
  refine⟨.pointer (some ⟨b,off+i.toNat*r.sz,none⟩),?_,b,_,c,hg,fr,rfl,J,?_⟩
  ·simp [execOp,Y,h5,Instr.indexAt,asIntOf,jB D,Instr.sureAddr,hc,ti.sizeOf,iI]
  ·have h6:=s9 h4 hy'
   rw [zm,vI,p8]at h6
   have hmul:i.toNat*r.sz+r.sz<=n*r.sz:=by rw [<-Nat.succ_mul];exact wD _ (by omega)
   have hmin:min r.sz ((nQ r n).sz-i.toNat*r.sz)=r.sz:=by
    show min r.sz (n*r.sz-i.toNat*r.sz)=r.sz
    omega
   rwa [hmin]at h6
def ge{i:Int}(D:E.P.underlying t=some (.array n e))(ti:TI E.P e sz bytes agg z)(hm:bx (nQ r n) hg b xs∈O)(I:aF E.N G x (tV (ax b 0)))(hi:aF E.N G ix (H (rI k) i))(hy:cU xs i=some y):
  bT E O G ⟨dst,.indexAddr t x ix,ty,pos,after,g⟩ (tV (ax b (i.toNat*sz))):=
 .of_pure fun a w S _ ho X=>by
  have Y:a.eval x=ax b 0:=I S a X
  have h5:a.eval ix= .int k i:=fq.1 (hi S a X)
  obtain⟨⟨_,c,_,h4,_⟩,_⟩:=ho.mem _ hm
  obtain⟨h0,hy'⟩:=iT hy
  have hlt:i.toNat<xs.length:=(qr.1 hy').1
  have hc:0<=i/\i<(n:Int):=⟨h0,by omega⟩
  refine⟨_,?_,rfl⟩
  simp [execOp,Y,h5,ax,Instr.indexAt,asIntOf,jB D,Instr.sureAddr,hc,ti.sizeOf,iI]
end
def Mc{i:Int}(hy:cU xs i=some y){cs:List Value}(h:(nQ r n).rc S cs xs):r.rc S ((cs.drop (i.toNat*r.sz)).take r.sz) y:=s9 h.2 (iT hy).2
def Ar{i:Int}{p:Operand}{ty:TypeId}(ti:TI E.P U sz bytes agg z)(hsz:r.sz=sz)(hag:r.agg=agg)(hm:bx (nQ r n) hg b xs∈O)(hy:cU xs i=some y)(hp:aF E.N G p (tV (ax b (i.toNat*r.sz)))):bT E O G ⟨dst,.load U p,ty,pos,after,g⟩ (H r y):=
 .of_pure fun a w S _ ho X=>by
  have Y:a.eval p=ax b (i.toNat*r.sz):=hp S a X
  obtain⟨⟨_,cur,h5,h6⟩,_⟩:=ho.mem _ hm
  have h7:=Mc hy h6
  refine⟨_,?_,_,rfl,h7⟩
  simp [execOp,Y,ax,Instr.loadAt,Instr.sureAddr,jh ti h5 hsz hag h7]
def IT{v:α}{i:Int}{p:Operand}{ty:TypeId}(ti:TI E.P U sz bytes agg z)(hsz:r.sz=sz)(hy:cU xs i=some y)(hz:xs.set i.toNat v=zs)(hp:aF E.N G p (tV (ax b (i.toNat*r.sz))))(hv:aF E.N G x (H r v))(k:RG E ops Q rest (bx (nQ r n) hg b zs::O) G):RG E ops Q (⟨none,.store U p x,ty,pos,after,none⟩::rest) (bx (nQ r n) hg b xs::O) G:= .of rfl fun a w S st=>by
 subst hz
 have Y:a.eval p=ax b (i.toNat*r.sz):=hp S a st.facts
 obtain⟨ds,J,Z⟩:=hv S a st.facts
 obtain⟨⟨hno,cur,h5,h6⟩,_⟩:=st.own.1
 obtain⟨h0,hy'⟩:=iT hy
 have hlt:i.toNat<xs.length:=(qr.1 hy').1
 have hl:=mw h6.2
 simp only [yx]at hl
 have hmul:i.toNat*r.sz+r.sz<=xs.length*r.sz:=by rw [<-Nat.succ_mul];exact wD _ hlt
 obtain⟨w',hr,e1,e2,e3,e4,e5,e6⟩:=iO ti hsz Z h5 (off:=i.toNat*r.sz) (by omega)
 have hrun:(execOp a.eval ⟨none,.store U p x,ty,pos,after,none⟩).run E.P w= .ok .skip w' :=by
  simp [execOp,Y,J,Instr.storeAt,ax,Instr.sureAddr,hr]
 refine⟨fun c h=>(by cases h),?_⟩
 rw [hrun]
 obtain⟨g1,g2,g3⟩:=nD (O:=O) st.sat (bx (nQ r n) hg b xs) (bx (nQ r n) hg b (xs.set i.toNat v)) st.own (fun _=>sr) (fun _=>sr) ⟨e1,e2,e3,e4.1,e4.2⟩ e6 ⟨hno,_,e5,by rw [BJ];exact h6.1,wO Z h6.2 hlt⟩ hno
 exact k _ _ S ⟨st.ext.step g1 (fun c hc=>st.own.1.2 c hc),g2,g3,st.facts⟩
end
def vB{α:Type}{r:Rp α}{c:Value}{x:α}(h: ∀S,r.rc S [c] x)(S:SH): ∀n,qS r S (List.replicate n c) (List.replicate n x)
 |0=>rfl
 |n+1=>⟨[c],_,rfl,h S,vB h S n⟩
def AZ{c:Value}{x:α}(n:Nat)(h: ∀S,r.rc S [c] x): ∀S,(nQ r n).rc S (List.replicate n c) (List.replicate n x):=fun S=>⟨List.length_replicate,vB h S n⟩
def OJ(n:Nat):Option Unit:=if n<=68719476736 then some ()else none
def RN(n:Int):Option Unit:=if 0<n then some ()else none
def J8{n:Int}{u:Unit}(h:RN n=some u):0<n:=by
 unfold RN at h
 split at h
 ·assumption
 ·cases h
def Le{e:Exit}(mm:Bool)(r:Rp α)(hg:TypeId)(h:AT E Q e (jS mm r hg none 0 []::O) G):AT E Q e O G:=fun a w S st=>h a w S (st.fresh mm r hg)
def Ck{x:α}(h:dk xs lo (xs.length:Int)=some ys)(hz:xs.take lo.toNat++List.replicate ys.length x=zs):zs.length=xs.length:=by
 obtain⟨l,m,rfl,hm,Y,J,rfl⟩:=ft h
 have hm' :m=xs.length:=by omega
 subst hm'
 rw [<-hz]
 simp
 omega

def tC(n:FuncId)(cts:List Ty):Ty where
 p:=fun S v=> ∃cap:List Value,v= .func (.func n) #[] cap.toArray/\tX S cts cap
 mono:=fun h ⟨cap,e,k⟩=>⟨cap,e,tX.mono h k⟩
section
section
variable{ty:TypeId}
def Ei{fid:FuncId}{caps:List Operand}{cts:List Ty}(hcap:il E.N G caps cts):bT E O G ⟨dst,.makeFunc (.func fid) #[] caps.toArray,ty,pos,after,g⟩ (tC fid cts):=
 .of_pure fun a w S _ _ X=>⟨.func (.func fid) #[] (caps.map a.eval).toArray,by simp [execOp,Instr.makeFunc],_,rfl,hcap.tys X⟩
end
def yf{n:FuncId}{cts:List Ty}{ty:TypeId}{fo:Operand}{xs:List Operand}(O1 Or:List OE){t:OI->Ty}{O2:OI->List OE}(hO:O=O1++Or)(hc:al E.P n=true)(hs:fz E.P n (ts++cts) O1 t O2)(X:aF E.N G fo (tC n cts))(I:il E.N G xs ts)(hpost: ∀i,O2 i++Or=post i):
  EffOK E O G ⟨some d,.call ⟨.value fo,xs.toArray,ats⟩,ty,pos,after,g⟩ post t:=fun a w S hsat ho hF V=>by
 subst hO
 obtain rfl:(fun i=>O2 i++Or)=post:=funext hpost
 obtain⟨cap,e,hcap⟩:=X S a hF
 have hr:(execOp a.eval ⟨some d,.call ⟨.value fo,xs.toArray,ats⟩,ty,pos,after,g⟩).run E.P w= .ok (.enter n ((xs.map a.eval).toArray++cap.toArray)) w:=by
  simp [execOp,resolve,e,Deferred.ofValue,invoke,fE hc]
 refine⟨fun c h=>(by cases h),?_⟩
 rw [hr]
 have e2:(xs.map a.eval).toArray++cap.toArray=((xs.map a.eval)++cap).toArray:=by simp
 rw [e2]
 exact(hs w S _ hsat ((I.tys hF).append hcap) (mH ho).1.weak).mono fun en w' ⟨i,v,S',he,hv,Y,J,Z,h4⟩=>⟨_,he,v,S',i,rfl,Y.more fun b ⟨f,X,V⟩=>⟨f,BN _ X,V⟩,J,dg.turn ho V Y Z h4,hv⟩
end

def BB{α:Type}(xs:List α)(lo:Int)(n:Nat)(i:Int):Option α:=if 0<=i/\i<(n:Int)then cU xs (lo+i)else none
def u6{i:Int}(h:BB xs lo n i=some y):0<=i/\i<(n:Int)/\cU xs (lo+i)=some y:=by
 unfold BB at h
 split at h
 ·rename_i hc;exact⟨hc.1,hc.2,h⟩
 ·cases h
def xH(h:dk xs lo hi=some ys):0<=lo:=by
 obtain⟨l,m,rfl,_,_,_,_⟩:=ft h
 omega
section
def oC(hm:jS mm r hg l cap xs∈O)(hs:dk xs lo hi=some ys)(h:(l=none->ys.length=0)/\ys.length<=maxLen->RG E ops Q rest O G):RG E ops Q rest O G:=fun a w S st=>by
 refine h ?_ a w S st
 obtain⟨cells,Y,_⟩:=(st.own.mem _ hm).1
 obtain⟨l',m,_,_,_,h8,rfl⟩:=ft hs
 have hlen:((xs.take m).drop l').length<=xs.length:=by simp;omega
 cases l with
 |none=>have:=Y.1;exact⟨fun _=>by omega,by omega⟩
 |some b=>obtain⟨cur,_,g2,g3,_⟩:=Y;exact⟨fun h=>(by cases h),by omega⟩
section
variable{ty:TypeId}
def Hi{lo:Nat}(D:E.P.underlying t=some (.slice e))(hv:l=none->n=0)(I:aF E.N G x (tV (mR sz l cap lo n))):
  bT E O G ⟨dst,.call ⟨.builtin .len,#[x],#[t]⟩,ty,pos,after,g⟩ (H (rI .i64) (n:Int)):=
 .of_pure fun a w S _ ho X=>by
  have Y:a.eval x=mR sz l cap lo n:=I S a X
  obtain⟨ad,c,Z⟩: ∃ad c,mR sz l cap lo n= .slice ad n c:=by
   cases l with
   |none=>rw [hv rfl];exact⟨none,0,rfl⟩
   |some b=>exact⟨_,_,rfl⟩
  refine⟨.int .i64 n,?_,fq.2 rfl⟩
  simp [execOp,resolve,invoke,builtin,Builtin.len_,jB D,Y,Z,goInt]
def sf{i:Int}(D:E.P.underlying t=some (.slice e))(ti:TI E.P e sz bytes agg z)(hsz:r.sz=sz)(hm:jS mm r U l cap xs∈O)(hl0:0<=lo)(I:aF E.N G x (tV (mR sz l cap lo.toNat n)))(hi' :aF E.N G ix (H (rI k) i))(hy:BB xs lo n i=some y):
  bT E O G ⟨dst,.indexAddr t x ix,ty,pos,after,g⟩ (tV (jn l ((lo+i).toNat*sz+0))):=
 .of_pure fun a w S _ ho X=>by
  subst hsz
  have Y:a.eval x=mR r.sz l cap lo.toNat n:=I S a X
  have Z:a.eval ix= .int k i:=fq.1 (hi' S a X)
  obtain⟨hi0,hin,hxi⟩:=u6 hy
  obtain⟨_,hx'⟩:=iT hxi
  obtain⟨b,cur,rfl,_,hle,_⟩:=pI (ho.mem _ hm).1 hx'
  have hlt2:(lo+i).toNat<xs.length:=(qr.1 hx').1
  have hne: ¬(cap=lo.toNat):=by omega
  refine⟨_,?_,rfl⟩
  have hc:0<=i/\i<(n:Int):=⟨hi0,hin⟩
  have e1:(lo+i).toNat=lo.toNat+i.toNat:=by omega
  simp [execOp,Y,Z,mR,hne,Instr.indexAt,asIntOf,jB D,hc,ti.sizeOf,iI,jn,ax,e1,tY]
end
end

section
variable{ty:TypeId}{l:List Oper}
end

def og3 [Inhabited α]{c b:Bool}{x:Option α}{k:α->Option β}{d:Option β}{r:β}(h:c=true->(if b=true then x.bind k else d)=some r): ∃y,((c&&b)=true->x=some y/\k y=some r)/\(c=true->b=false->d=some r):=by
 cases c with
 |false=>exact⟨default,fun e=>(by cases e),fun e=>(by cases e)⟩
 |true=>
  obtain⟨y,Y,J⟩:=og (h rfl)
  exact⟨y,fun e=>Y e,fun _ e=>J e⟩
def n7{κ β:Type} [DecidableEq κ]:List (κ×β)->κ->Option β
 |[],_=>none
 |p::m,k=>if p.1=k then some p.2 else n7 m k
def eM{κ β:Type} [DecidableEq κ]:List (κ×β)->κ->β->List (κ×β)
 |[],k,v=>[(k,v)]
 |p::m,k,v=>if p.1=k then(k,v)::m else p::eM m k v
def A7{κ:Type}(P:Program)(kt:TypeId)(kv:κ->Value):Prop:= ∃d,P.underlying kt=some d/\(∀a,MapKept.IsKey d (kv a))/\ ∀a b,kv a=kv b->a=b
def RY(k:IntKind)(n:Int):Value:= .int k n
def kQ{kt:TypeId}(h:P.underlying kt=some (.int k)):A7 P kt (RY k):=⟨_,h,fun _=>rfl,fun a b e=>by injection e⟩
structure MV(β:Type) where
 p:World->SH->β->Option Nat×Nat->Value->Prop
 here: ∀{w S y o v},p w S y o v-> ∀j,o.1=some j->j<w.heap.size
 kept: ∀{C w w' S S' y o v},p w S y o v->gU C w S w' S' ->(∀j,o.1=some j-> ¬C j)->p w' S' y o v
def yI{β:Type}(ty:β->Ty):MV β where
 p:=fun _ S y o v=>o.1=none/\(ty y).p S v
 here:=fun h j hj=>by rw [h.1]at hj;cases hj
 kept:=fun h k _=>⟨h.1,(ty _).mono k.keep h.2⟩
section
variable{κ:Type} [DecidableEq κ]{hb:MV β}{kv:κ->Value}{d:TypeDesc}{k:κ}
def tS(hb:MV β)(kv:κ->Value)(w:World)(S:SH)(h:Option κ):List MapEntry->List (Option Nat×Nat)->List (κ×β)->Prop
 |[],[],[]=>True
 |e::es,o::os,q::m=>e.key=kv q.1/\(if h=some q.1 then o.1=none else hb.p w S q.2 o e.val)/\(∀o' ∈os,∀j,o.1=some j->o'.1≠some j)/\(∀p∈m,p.1≠q.1)/\tS hb kv w S h es os m
 |_,_,_=>False
def Cg{h:Option κ}: ∀{es:List MapEntry} {os:List (Option Nat×Nat)} {m:List (κ×β)},tS hb kv w S h es os m-> ∀o∈os,∀j,o.1=some j->j<w.heap.size
 |[],[],[],_,o,ho,_,_=>by cases ho
 |e::es,o::os,q::m,⟨_,J,_,_,h5⟩,o',ho,j,hj=>by
  rcases gB.1 ho with rfl|ho
  ·split at J
   ·rw [J]at hj;cases hj
   ·exact hb.here J j hj
  ·exact Cg h5 o' ho j hj
def xj{C:Nat->Prop}(k:gU C w S w' S'){h:Option κ}: ∀{es:List MapEntry} {os:List (Option Nat×Nat)} {m:List (κ×β)},tS hb kv w S h es os m->(∀o∈os,∀j,o.1=some j-> ¬C j)->tS hb kv w' S' h es os m
 |[],[],[],_,_=>trivial
 |e::es,o::os,q::m,⟨Y,J,Z,h4,h5⟩,hC=>⟨Y,by
  split
  ·rename_i hh;rw [bE hh]at J;exact J
  ·rename_i hh;rw [bn hh]at J;exact hb.kept J k (hC o (mp ..)),Z,h4,xj k h5 fun o' ho=>hC o' (nu _ ho)⟩
def yR{h:Option κ}: ∀{es:List MapEntry} {os:List (Option Nat×Nat)} {m:List (κ×β)},tS hb kv w S h es os m->(∀p∈m,h≠some p.1)->tS hb kv w S none es os m
 |[],[],[],_,_=>trivial
 |e::es,o::os,q::m,⟨Y,J,Z,h4,h5⟩,hk=>⟨Y,by
  rw [bn (hk q (mp ..))]at J
  rw [bn (by simp)];exact J,Z,h4,yR h5 fun p hp=>hk p (nu _ hp)⟩
def qi(hd: ∀a,MapKept.IsKey d (kv a))(hi: ∀a b,kv a=kv b->a=b)(a b:κ):Instr.sameNow d (kv a) (kv b)=some (decide (a=b)):=by
 obtain⟨r,Y,J⟩:=MapKept.sameNow_of_keys (hd a) (hd b)
 rw [Y]
 by_cases h:a=b
 ·subst h;rw [J.2 rfl];simp
 ·rw [decide_eq_false h]
  cases r with
  |false=>rfl
  |true=>exact absurd (hi _ _ (J.1 rfl)) h
def o5(hd: ∀a,MapKept.IsKey d (kv a))(hi: ∀a b,kv a=kv b->a=b): ∀{es:List MapEntry} {os:List (Option Nat×Nat)} {m:List (κ×β)} (i:Nat),tS hb kv w S none es os m->
  ∃os',(∀x∈os',x∈os\/x.1=none)/\tS hb kv w S (some k) es os' m/\
   ((n7 m k=none/\Instr.findNow d (kv k) es i=some none)\/ ∃(y:β) (o:Option Nat×Nat) (e:MapEntry) (j:Nat),n7 m k=some y/\o∈os/\hb.p w S y o e.val/\Instr.findNow d (kv k) es i=some (some (j,e.val))/\ ∀x∈os',∀q,o.1=some q->x.1≠some q)
 |[],[],[],i,_=>⟨[],fun x I=>(by cases I),trivial,.inl ⟨rfl,rfl⟩⟩
 |e::es,o::os,q::m,i,⟨Y,J,Z,h4,h5⟩=>by
  rw [bn (by simp)]at J
  by_cases hk:q.1=k
  ·refine⟨(none,0)::os,fun x I=>?_,⟨Y,by rw [bE (by rw [hk])],fun _ _ _ hj=>(by cases hj),h4,?_⟩,.inr ⟨q.2,o,e,i,by unfold n7;rw [bE hk],mp ..,J,?_,fun x I j hj=>?_⟩⟩
   ·rcases gB.1 I with rfl|I
    ·exact .inr rfl
    ·exact .inl (nu _ I)
   ·have: ∀{es:List MapEntry} {os:List (Option Nat×Nat)} {m:List (κ×β)},tS hb kv w S none es os m->(∀p∈m,p.1≠k)->tS hb kv w S (some k) es os m:=by
     intro es
     induction es with
     |nil=>intro os m h _;cases os<;>cases m<;>first|trivial|exact h.elim
     |cons e es ih=>
      intro os m h hm
      cases os with
      |nil=>cases m<;>exact h.elim
      |cons o os=>
       cases m with
       |nil=>exact h.elim
       |cons q m=>
        obtain⟨g1,g2,g3,g4,g5⟩:=h
        rw [bn (by simp)]at g2
        exact⟨g1,by rw [bn (fun e=>hm q (mp ..) (qa e).symm)];exact g2,g3,g4,ih g5 fun p hp=>hm p (nu _ hp)⟩
    exact this h5 (fun p hp=>by rw [<-hk];exact h4 p hp)
   ·unfold Instr.findNow
    rw [Y,qi hd hi,hk,decide_eq_true rfl]
   ·rcases gB.1 I with rfl|I
    ·exact fun e=>by cases e
    ·exact Z x I j hj
  ·obtain⟨os',g1,g2,g3⟩:=o5 hd hi (i+1) h5
   refine⟨o::os',fun x I=>?_,⟨Y,by rw [bn (fun e=>hk (qa e).symm)];exact J,fun o' ho' j hj=>?_,h4,g2⟩,?_⟩
   ·rcases gB.1 I with rfl|I
    ·exact .inl (mp ..)
    ·exact(g1 x I).imp (nu _) id
   ·rcases g1 o' ho' with h|h
    ·exact Z o' h j hj
    ·rw [h];exact fun e=>by cases e
   ·have X:Instr.findNow d (kv k) (e::es) i=Instr.findNow d (kv k) es (i+1):=by
     conv=>lhs;unfold Instr.findNow
     rw [Y,qi hd hi,decide_eq_false (fun e=>hk e.symm)]
    have hm:n7 (q::m) k=n7 m k:=by conv=>lhs;unfold n7;rw [bn hk]
    rw [X,hm]
    refine g3.imp id fun⟨y,o1,e1,j,f1,f2,f3,f4,f5⟩=>⟨y,o1,e1,j,f1,nu _ f2,f3,f4,fun x I q hq=>?_⟩
    rcases gB.1 I with rfl|I
    ·exact fun e=>Z o1 f2 q e hq
    ·exact f5 x I q hq
def Et(x:α)(xs:List α)(j:Nat)(f:α->α):(x::xs).modify (j+1) f=x::xs.modify j f:=by simp [List.modify_succ_cons]
def Ch(hd: ∀a,MapKept.IsKey d (kv a))(hi: ∀a b,kv a=kv b->a=b){y:β}{o:Option Nat×Nat}{v:Value}{born:Nat}(hv:hb.p w S y o v): ∀{es:List MapEntry} {os:List (Option Nat×Nat)} {m:List (κ×β)} (i:Nat),tS hb kv w S (some k) es os m->(∀o' ∈os,∀j,o.1=some j->o'.1≠some j)->
    ∃os',(∀x∈os',x∈os\/x=o)/\
      ((∃(j:Nat) (e:MapEntry),Instr.findNow d (kv k) es i=some (some (i+j,e.val))/\es[j]? =some e/\e.key=kv k/\tS hb kv w S none (es.modify j fun e=>{e with key:=kv k,val:=v}) os' (eM m k y))\/
        (Instr.findNow d (kv k) es i=some none/\tS hb kv w S none (es++[⟨kv k,v,born⟩]) os' (eM m k y)))
  |[],[],[],i,_,_=>⟨[o],fun x I=> .inr (jY.1 I),.inr ⟨rfl,⟨rfl,by rw [bn (by simp)];exact hv,fun _ h=>(by cases h),fun _ h=>(by cases h),trivial⟩⟩⟩
  |e::es,o1::os,q::m,i,⟨Y,J,Z,h4,h5⟩,ha=>by
    by_cases hk:q.1=k
    · refine⟨o::os,fun x I=>?_,.inl ⟨0,e,?_,rfl,by rw [Y,hk],?_⟩⟩
      · rcases gB.1 I with rfl|I
        · exact .inr rfl
        · exact .inl (nu _ I)
      · unfold Instr.findNow
        rw [Y,qi hd hi,hk,decide_eq_true rfl]
        rfl
      · unfold eM
        rw [bE hk,List.modify_zero_cons]
        exact⟨rfl,by rw [bn (by simp)];exact hv,fun o' ho' =>ha o' (nu _ ho'),fun p hp=>by rw [<-hk];exact h4 p hp,
          yR h5 fun p hp e=>h4 p hp (by rw [hk];exact(qa e).symm)⟩
    · obtain⟨os',g1,g2⟩:=Ch hd hi (born:=born) hv (i+1) h5 fun o' ho' =>ha o' (nu _ ho')
      rw [bn (fun e=>hk (qa e).symm)]at J
      have X:Instr.findNow d (kv k) (e::es) i=Instr.findNow d (kv k) es (i+1):=by
        conv=>lhs;unfold Instr.findNow
        rw [Y,qi hd hi,decide_eq_false (fun e=>hk e.symm)]
      have hm:eM (q::m) k y=q::eM m k y:=by conv=>lhs;unfold eM;rw [bn hk]
      have hap: ∀o' ∈os',∀j,o1.1=some j->o'.1≠some j:=fun o' ho' j hj=>by
        rcases g1 o' ho' with h|rfl
        · exact Z o' h j hj
        · exact fun e=>ha o1 (mp ..) j e hj
      have hne: ∀p∈eM m k y,p.1≠q.1:=by
        have: ∀m:List (κ×β),(∀p∈m,p.1≠q.1)-> ∀p∈eM m k y,p.1≠q.1:=by
          intro m
          induction m with
          |nil=>intro _ p hp;rw [jY.1 hp];exact fun e=>hk e.symm
          |cons p0 m ih=>
            intro hm p hp
            unfold eM at hp
            split at hp
            · rcases gB.1 hp with rfl|hp
              · exact fun e=>hk e.symm
              · exact hm p (nu _ hp)
            · rcases gB.1 hp with rfl|hp
              · exact hm _ (mp ..)
              · exact ih (fun p hp=>hm p (nu _ hp)) p hp
        exact this m h4
      rw [X,hm]
      refine⟨o1::os',fun x I=>?_,g2.imp (fun⟨j,e',f1,f2,f3,f4⟩=>⟨j+1,e',by rw [f1];congr 3;omega,by simpa using f2,f3,?_⟩) fun⟨f1,f2⟩=>⟨f1,?_⟩⟩
      · rcases gB.1 I with rfl|I
        · exact .inl (mp ..)
        · exact(g1 x I).imp (nu _) id
      · rw [Et]
        exact⟨Y,by rw [bn (by simp)];exact J,hap,hne,f4⟩
      · exact⟨Y,by rw [bn (by simp)];exact J,hap,hne,f2⟩
def Cf{h:Option κ}: ∀{es:List MapEntry} {os:List (Option Nat×Nat)} {m:List (κ×β)},tS hb kv w S h es os m-> ∀x∈es,∃q∈m,x.key=kv q.1
 |[],[],[],_,x,I=>by cases I
 |e::es,o::os,q::m,⟨Y,_,_,_,h5⟩,x,I=>by
  rcases gB.1 I with rfl|I
  ·exact⟨q,mp ..,Y⟩
  ·obtain⟨q',g1,g2⟩:=Cf h5 x I
   exact⟨q',nu _ g1,g2⟩
def IA(hd: ∀a,MapKept.IsKey d (kv a)){h:Option κ}{es:List MapEntry}{os:List (Option Nat×Nat)}{m:List (κ×β)}(h4:tS hb kv w S h es os m)(g1:Instr.findNow d (kv k) es i=some none){x:MapEntry}(I:x∈es):x.key≠kv k:=by
 rcases MapKept.findNow_spec (hd k) es i (fun y hy=>by obtain⟨q,_,e⟩:=Cf h4 y hy;rw [e];exact hd _)with⟨_,J⟩|⟨j,e,J,_⟩
 ·exact J x I
 ·rw [g1]at J;cases J
def pL(hb:MV β)(kv:κ->Value)(b:Nat)(h:Option κ)(os:List (Option Nat×Nat))(m:List (κ×β)):OE where
 fp:=fun j=>j=b\/ ∃o∈os,o.1=some j
 p:=fun w S=>S b=none/\(∀o∈os,o.1≠some b)/\ ∃es clock,w.heap[b]? =some (.map es clock)/\tS hb kv w S h es.toList os m/\MapKept.Stamped es clock
 here:=by
  intro w S ⟨_,_,es,clock,Z,h4,_⟩ j hj
  rcases hj with rfl|⟨o,ho,hj⟩
  ·exact(vL.1 Z).1
  ·exact Cg h4 o ho j hj
 kept:=by
  intro C w w' S S' ⟨Y,J,es,clock,Z,h4,hst⟩ k hC
  have hlt:=(vL.1 Z).1
  exact⟨by rw [k.old b hlt (hC b (.inl rfl))];exact Y,J,es,clock,by rw [k.heap b hlt (hC b (.inl rfl))];exact Z,xj k h4 (fun o ho j hj=>hC j (.inr ⟨o,ho,hj⟩)),hst⟩
def oG(b:Nat):Value:= .map (some b)
end
section
variable{κ:Type} [DecidableEq κ]{hb:MV β}{kv:κ->Value}{os:List (Option Nat×Nat)}{m:List (κ×β)}{k:κ}{kt et:TypeId}{i v:Operand}{dst:Option Nat}{ty:TypeId}
def Cs(N:Fr)(G:jZ)(x:Operand)(u:Value):Prop:= ∀S a,cW N S a G->a.eval x=u
def wm{N:Fr}{q:IntKind}{n:Int}(h:aF N G x (H (rI q) n)):Cs N G x (RY q n):=fun S a X=>fq.1 (h S a X)
def ZV(P:Program)(hg:TypeId)(z:Value):Prop:=(P.info? hg).bind (·.zero)=some z
def ZV.run{z:Value}(h:ZV P hg z)(w:World):(zeroValue hg).run P w= .ok z w:=by
 unfold ZV at h
 cases hi:P.info? hg with
 |none=>rw [hi]at h;cases h
 |some i=>
  rw [hi]at h
  have h' :i.zero=some z:=h
  simp [zeroValue,typeInfo,hi,h']
def wv(hb:MV β)(kv:κ->Value)(hd:Nat.blt d E.N.n=true)(k: ∀b,RG E ops Q rest (pL hb kv b none [] []::O) ((d,tV (oG b))::G)):
  RG E ops Q (⟨some d,.makeMap t none,ty,pos,after,none⟩::rest) O G:= .of rfl fun a w S st=>by
 obtain⟨he,hs',hno⟩:=iy (w:=w) (.map #[] 0) st.sat
 have hrun:(execOp a.eval ⟨some d,.makeMap t none,ty,pos,after,none⟩).run E.P w= .ok (.value (oG w.heap.size)) (w.alloc (.map #[] 0)):=by
  simp [execOp,Instr.makeMap,oG]
 refine⟨fun c h=>(by cases h),?_⟩
 rw [hrun]
 exact k w.heap.size _ _ S ⟨st.ext.step0 he,hs',rt st.own he ⟨hno,fun _ h=>(by cases h),#[],0,wF w _,trivial,MapKept.stamped_empty 0⟩ (fun b V=>by
  rcases V with rfl|⟨_,h,_⟩
  ·exact dr _
  ·cases h) st.base_le,st.facts.put hd rfl⟩
def lh{kk:Value}{es:Array MapEntry}{clock:Nat}{q:TypeDesc}{z:Value}{u:Option (Nat×Value)}(hm:P.underlying t=some (.map kt et))(hq:P.underlying kt=some q)(hk:MapKept.IsKey q kk)(V:w.heap[b]? =some (.map es clock))(hz:ZV P et z)(X:Instr.findNow q kk es.toList 0=some u)(c:Bool):(Instr.lookup t (oG b) kk c).run P w= .ok (if c then .tuple #[(u.map (·.2)).getD z,.bool u.isSome]else(u.map (·.2)).getD z) w:=by
 cases u with
 |none=>simp [Instr.lookup,oG,jB hm,G2 V,G0 hq hk,MapKept.run_findKey hq X,hz.run,Result.andThen]
 |some r=>simp [Instr.lookup,oG,jB hm,G2 V,G0 hq hk,MapKept.run_findKey hq X,Result.andThen]
def Gc{γ:β->Ty}{z:β}{zv:Value}(hm:E.P.underlying t=some (.map kt et))(hk:A7 E.P kt kv)(hz:ZV E.P et zv)(hzt: ∀S,(γ z).p S zv)(hmem:pL (yI γ) kv b none os m∈O)(I:aF E.N G x (tV (oG b)))(hi:Cs E.N G i (kv k)):
  bT E O G ⟨dst,.lookup t x i false,ty,pos,after,g⟩ (γ ((n7 m k).getD z)):= .of_pure fun a w S hs ho X=>by
 obtain⟨⟨_,_,es,clock,Z,h4,_⟩,_⟩:=dg.mem ho _ hmem
 obtain⟨q,hq,hd,hinj⟩:=hk
 have Y:a.eval x=oG b:=I S a X
 have J:a.eval i=kv k:=hi S a X
 obtain⟨_,_,_,h5⟩:=o5 hd hinj (k:=k) 0 h4
 rcases h5 with⟨g1,g2⟩|⟨y,o,e,j,g1,g2,g3,g4,g5⟩
 ·refine⟨zv,by simp [execOp,Y,J,lh hm hq (hd k) Z hz g2],by rw [g1];exact hzt S⟩
 ·refine⟨e.val,by simp [execOp,Y,J,lh hm hq (hd k) Z hz g4],by rw [g1];exact g3.2⟩
def Ej{γ:β->Ty}{z:β}{zv:Value}(hm:E.P.underlying t=some (.map kt et))(hk:A7 E.P kt kv)(hz:ZV E.P et zv)(hzt: ∀S,(γ z).p S zv)(hmem:pL (yI γ) kv b none os m∈O)(I:aF E.N G x (tV (oG b)))(hi:Cs E.N G i (kv k)):
  bT E O G ⟨dst,.lookup t x i true,ty,pos,after,g⟩ (tT [γ ((n7 m k).getD z),H rB (n7 m k).isSome]):= .of_pure fun a w S hs ho X=>by
 obtain⟨⟨_,_,es,clock,Z,h4,_⟩,_⟩:=dg.mem ho _ hmem
 obtain⟨q,hq,hd,hinj⟩:=hk
 have Y:a.eval x=oG b:=I S a X
 have J:a.eval i=kv k:=hi S a X
 obtain⟨_,_,_,h5⟩:=o5 hd hinj (k:=k) 0 h4
 rcases h5 with⟨g1,g2⟩|⟨y,o,e,j,g1,g2,g3,g4,g5⟩
 ·refine⟨.tuple #[zv,.bool false],by simp [execOp,Y,J,lh hm hq (hd k) Z hz g2],[zv,.bool false],rfl,by rw [g1];exact hzt S,iC.2 (by rw [g1];rfl),trivial⟩
 ·refine⟨.tuple #[e.val,.bool true],by simp [execOp,Y,J,lh hm hq (hd k) Z hz g4],[e.val,.bool true],rfl,by rw [g1];exact g3.2,iC.2 (by rw [g1];rfl),trivial⟩
def xL{kk:Value}{es:Array MapEntry}{clock:Nat}{q:TypeDesc}{val:Value}(hm:P.underlying t=some (.map kt et))(hq:P.underlying kt=some q)(hk:MapKept.IsKey q kk)(V:w.heap[b]? =some (.map es clock)):
  (Instr.findNow q kk es.toList 0=some none->(Instr.mapUpdate t (oG b) kk val).run P w= .ok () {w with heap:=w.heap.setIfInBounds b (.map (es.push ⟨kk,val,clock⟩) (clock+1))})/\
  (∀j e,Instr.findNow q kk es.toList 0=some (some (j,e))->(∀e',es.toList[j]? =some e' ->e'.key=kk)->(∃e',es.toList[j]? =some e')->(Instr.mapUpdate t (oG b) kk val).run P w= .ok () {w with heap:=w.heap.setIfInBounds b (.map (es.modify j fun e=>{e with key:=kk,val:=val}) clock)}):=by
 refine⟨fun X=>?_,fun j e X hj he=>?_⟩
 ·simp [Instr.mapUpdate,oG,jB hm,G2 V,G0 hq hk,MapKept.run_findKey hq X,MapKept.run_setObj_map _ V,Result.andThen]
 ·obtain⟨e',he'⟩:=he
  have Y:=hj e' he'
  have J:es[j]? =some e' :=by simpa using he'
  simp [Instr.mapUpdate,oG,jB hm,G2 V,G0 hq hk,MapKept.run_findKey hq X,MapKept.run_setObj_map _ V,Result.andThen,J,Y,MapKept.run_keyThatStays hk]
def B6{y:β}{o:Option Nat×Nat}{val:Value}(hs:jA w S)(hm:E.P.underlying t=some (.map kt et))(hk:A7 E.P kt kv)(hp:(pL hb kv b (some k) os m).p w S)(hv:hb.p w S y o val)(hob:o.1≠some b)(hap: ∀o' ∈os,∀j,o.1=some j->o'.1≠some j):
  ∃w' os',(Instr.mapUpdate t (oG b) (kv k) val).run E.P w= .ok () w' /\gU (fun j=>j=b) w S w' S/\jA w' S/\(pL hb kv b none os' (eM m k y)).p w' S/\(∀j,(pL hb kv b none os' (eM m k y)).fp j->(pL hb kv b (some k) os m).fp j\/o.1=some j):=by
 obtain⟨hno,hnb,es,clock,Z,h4,hst⟩:=hp
 obtain⟨q,hq,hdk,hinj⟩:=hk
 obtain⟨os',p1,p2⟩:=Ch hdk hinj (born:=clock) hv 0 h4 hap
 have hnb' : ∀o' ∈os',o'.1≠some b:=fun o' ho' =>by
  rcases p1 o' ho' with h|rfl
  ·exact hnb o' h
  ·exact hob
 have hfp: ∀j,(j=b\/ ∃o∈os',o.1=some j)->(j=b\/ ∃o∈os,o.1=some j)\/o.1=some j:=fun j hj=>by
  rcases hj with h|⟨o',ho',e⟩
  ·exact .inl (.inl h)
  ·rcases p1 o' ho' with h|rfl
   ·exact .inl (.inr ⟨o',h,e⟩)
   ·exact .inr e
 have hw: ∀hf:Obj,gU (fun j=>j=b) w S {w with heap:=w.heap.setIfInBounds b hf} S/\jA {w with heap:=w.heap.setIfInBounds b hf} S/\({w with heap:=w.heap.setIfInBounds b hf}:World).heap[b]? =some hf:=fun hf=>
  ⟨⟨rfl,rfl,rfl,dr _,by simp,fun j _ hj=>(MapKept.heap_set (o' :=hf) Z).2 j hj,SH.le_refl _,fun _ _ _=>rfl⟩,hs.same fun j o hj=>(MapKept.heap_set (o' :=hf) Z).2 j (fun e=>by subst e;rw [hno]at hj;cases hj),(MapKept.heap_set Z).1⟩
 obtain⟨r1,r2⟩:=xL (val:=val) hm hq (hdk k) Z
 rcases p2 with⟨j,e,g1,g2,g3,g4⟩|⟨g1,g2⟩
 ·rw [pS]at g1
  obtain⟨x1,x2,x3⟩:=hw (.map (es.modify j fun e=>{e with key:=kv k,val:=val}) clock)
  refine⟨_,os',r2 j _ g1 (fun e' he' =>by rw [g2]at he';cases he';exact g3) ⟨_,g2⟩,x1,x2,⟨hno,hnb',_,_,x3,?_,MapKept.stamped_modify hst j _ (fun _ _=>rfl) (fun e' _ he' =>by rw [<-Array.getElem?_toList,g2]at he';cases he';exact g3.symm)⟩,hfp⟩;refine xj x1 (by rw [Array.toList_modify];exact g4) fun o' ho' j hj e=>?_
  subst e
  exact hnb' o' ho' hj
 ·obtain⟨x1,x2,x3⟩:=hw (.map (es.push ⟨kv k,val,clock⟩) (clock+1))
  refine⟨_,os',r1 g1,x1,x2,⟨hno,hnb',_,_,x3,?_,MapKept.stamped_push hst (fun x I e=>?_)⟩,hfp⟩
  rotate_left
  ·exact IA hdk h4 g1 I e
  refine xj x1 (by rw [Array.toList_push];exact g2) fun o' ho' j hj e=>?_
  subst e
  exact hnb' o' ho' hj
def Nk{γ:β->Ty}{y:β}(hm:E.P.underlying t=some (.map kt et))(hk:A7 E.P kt kv)(I:aF E.N G x (tV (oG b)))(hi:Cs E.N G i (kv k))(hv:aF E.N G v (γ y))
  (h: ∀os',RG E ops Q rest (pL (yI γ) kv b none os' (eM m k y)::O) G):
  RG E ops Q (⟨none,.mapUpdate t x i v,ty,pos,after,none⟩::rest) (pL (yI γ) kv b none os m::O) G:= .of rfl fun a w S st=>by
 have Y:a.eval x=oG b:=I S a st.facts
 have J:a.eval i=kv k:=hi S a st.facts
 have Z:(γ y).p S (a.eval v):=hv S a st.facts
 obtain⟨⟨hp,hfp⟩,hap,hO⟩:=st.own
 obtain⟨hno,hnb,es,clock,e3,e4,hst⟩:=hp
 obtain⟨q,hq,hdk,hinj⟩:=hk
 obtain⟨os1,p1,p2,_⟩:=o5 hdk hinj (k:=k) 0 e4
 have hnb1: ∀o∈os1,o.1≠some b:=fun o ho=>by
  rcases p1 o ho with h|h
  ·exact hnb o h
  ·rw [h];exact fun e=>by cases e
 obtain⟨w',os',r,x1,x2,x3,x4⟩:=B6 (hb:=yI γ) (E:=E) (y:=y) (o:=(none,0)) (val:=a.eval v) st.sat hm ⟨q,hq,hdk,hinj⟩ ⟨hno,hnb1,es,clock,e3,p2,hst⟩ ⟨rfl,Z⟩ (fun e=>by cases e) (fun _ _ _ e=>by cases e)
 have hrun:(execOp a.eval ⟨none,.mapUpdate t x i v,ty,pos,after,none⟩).run E.P w= .ok .skip w' :=by simp [execOp,Y,J,r]
 refine⟨fun c h=>(by cases h),?_⟩
 rw [hrun]
 have hfp' : ∀j,(pL (yI γ) kv b none os' (eM m k y)).fp j->(pL (yI γ) kv b none os m).fp j:=fun j hj=>by
  rcases x4 j hj with(h|⟨o,ho,e⟩)|e
  ·exact .inl h
  ·rcases p1 o ho with h|h
   ·exact .inr ⟨o,h,e⟩
   ·rw [h]at e;cases e
  ·cases e
 exact h os' _ _ S ⟨st.ext.step x1 (fun c hc=>hfp c (.inl hc)),x2,⟨⟨x3,fun j hj=>hfp j (hfp' j hj)⟩,fun f X j hj=>hap f X j (hfp' j hj),hO.ext x1 fun f X j hj hjb=>hap f X j (.inl hjb) hj⟩,st.facts⟩
end

def v7(tmps:Array Value):ResultVar->Sem Value
 | .tmp t=>pure (tmps.getD t undef)
 | .cell a t=>do loadVar t (<-asAddr (tmps.getD a undef))
def HI(P:Program)(N:Fr)(G:jZ)(rv:ResultVar)(t:Ty):Prop:= ∀a w S,jA w S->cW N S a G-> ∃v,(v7 a.tmps rv).run P w= .ok v w/\t.p S v
def aQ{N:Fr}{k:Nat}{t:Ty}(hk:bM G k=some t):HI P N G (.tmp k) t:=fun a w S _ X=>⟨_,rfl,X.at_ k t hk⟩
def bf{N:Fr}{k:Nat}{x:α}(ti:TI P hg sz bytes agg z)(hsz:r.sz=sz)(hag:r.agg=agg)(hk:bM G k=some (bC r x)):HI P N G (.cell k hg) (H r x):=fun a w S hs X=>by
 obtain⟨b,off,c,U,fr,Y,J,Z⟩:=X.at_ k _ hk
 obtain⟨c',h4,h5⟩:=hs.part J (r.len Z)
 rw [<-h5]at Z
 have hl:=jh ti h4 hsz hag Z
 have h1' :a.tmps[k]?.getD undef=Value.pointer (some ⟨b,off,none⟩):=by simpa [DC] using Y
 exact⟨_,by simp [v7,h1',asAddr,hl],_,rfl,Z⟩
def IS(P:Program)(N:Fr)(G:jZ):List ResultVar->List Ty->Prop
 |[],[]=>True
 |rv::rvs,t::ts=>HI P N G rv t/\IS P N G rvs ts
 |_,_=>False
def IS.run{N:Fr}(hs:jA w S)(X:cW N S a G): ∀{rvs:List ResultVar} {ts:List Ty},IS P N G rvs ts-> ∃vs,(rvs.mapM (v7 a.tmps)).run P w= .ok vs w/\tX S ts vs/\vs.length=rvs.length
 |[],[],_=>⟨[],rfl,trivial,rfl⟩
 |rv::rvs,t::ts,⟨Y,J⟩=>by
  obtain⟨v,g1,g2⟩:=Y a w S hs X
  obtain⟨vs,k1,k2,k3⟩:=IS.run hs X J
  exact⟨v::vs,by simp [List.mapM_cons,g1,k1,Result.andThen],⟨g2,k2⟩,by simp [k3]⟩
def bI{rvs:List ResultVar}(hr:fn.results=rvs.toArray)(Y:Nat.beq rvs.length 1=false)(h:IS P ⟨N,[]⟩ G rvs ts):
  AT ⟨P,⟨N,[]⟩,B,w0,S0,none⟩ (bodyPost P fn (Fb ⟨P,⟨N,[]⟩,B,w0,S0,none⟩ (tT ts))) .ret O G:=fun a w S st=>by
 obtain⟨vs,k1,k2,k3⟩:=h.run st.sat st.facts
 have hne: ¬vs.length=1:=by rw [k3];intro e;rw [e]at Y;cases Y
 refine⟨st.facts.defers,.tuple vs.toArray,?_,_,S,rfl,st.ext,st.sat,vs,rfl,k2⟩
 have e1:(fn.results.mapM (v7 a.tmps)).run P w= .ok vs.toArray w:=by
  rw [hr,List.mapM_toArray,Sem.run_map,k1]
  rfl
 have e3:results fn a.tmps=((fn.results.mapM (v7 a.tmps))>>=fun vs=>pure (if h:vs.size=1 then vs[0]else .tuple vs)):=rfl
 rw [e3,sW,e1]
 simp [Result.andThen,hne]

def Jv{v:Value}(h:(H (gJ r) xs).p S v):(gJ r).rc S [v] xs:=by
 obtain⟨cs,e,J⟩:=h
 obtain⟨a,cap,e2,Z⟩:=J
 subst e2
 rw [e]
 exact⟨a,cap,rfl,Z⟩
section
variable{ty:TypeId}
def fI{r:Rp β}{get:β->Value}{x:β}{p:Operand}(ti:TI E.P U 1 bytes false z)(hget:mj r off rV get)(hm:bx r hg b x∈O)(hv:get x=aL l cap n)(hp:aF E.N G p (tV (ax b off))):
  bT E O G ⟨dst,.load U p,ty,pos,after,g⟩ (tV (aL l cap n)):=(be (q:=rV) ti rfl rfl hget hm hp).imp fun _ _ h=>by rw [<-hv];exact(qg.1 h).1
def ic{q:Rp α}{r:Rp β}{get:β->Value}{x:β}{hb:TypeId}{p:Operand}(ti:TI E.P U 1 bytes false z)(hget:mj r off rV get)(hm:bx r hg b x∈O)(hm2:hX q hb l cap xs∈O)(hv:get x=aL l cap xs.length)(hp:aF E.N G p (tV (ax b off))):
  bT E O G ⟨dst,.load U p,ty,pos,after,g⟩ (tO q l cap xs):=fun a w S hs ho X=>
 my (fun _ _ ⟨v,S',Y,J,Z,h4⟩=>⟨v,S',Y,J,Z,h4,by
  have h5:v=aL l cap xs.length:=h4
  rw [h5]
  exact pC (((ho.ext0 J).mem _ hm2).1)⟩) (fI (g:=g) (ty:=ty) (pos:=pos) (after:=after) (dst:=dst) ti hget hm hv hp a w S hs ho X)
def mY{o:Nat}{p:Operand}(X:cP E.P hg i=some (off,sz))(h0:Nat.beq sz 0=false)(hp:aF E.N G p (tV (ax b o)))(he:o+off=n):bT E O G ⟨dst,.fieldAddr hg p i,ty,pos,after,g⟩ (tV (ax b n)):=by
 subst he
 exact Bz X h0 hp
def iQ{q:Rp α}{r:Rp β}{x:β}{p:Operand}(ti:TI E.P U sz bytes agg z)(hsz:q.sz=sz)(hag:q.agg=agg)(hag2:r.agg=agg)(hsz2:r.sz=sz)(hm:bx r hg b x∈O)(hc: ∀w S cs,dg E.base E.B w S O->r.rc S cs x->q.rc S cs y)(hp:aF E.N G p (tV (ax b 0))):
  bT E O G ⟨dst,.load U p,ty,pos,after,g⟩ (H q y):= .of_pure fun a w S _ ho X=>by
 have Y:a.eval p=ax b 0:=hp S a X
 obtain⟨⟨_,cur,h5,h6⟩,_⟩:=ho.mem _ hm
 have h7:=hc w S _ ho h6
 have hl:=q.len h7
 have h8:q.rc S ((cur.toList.drop 0).take q.sz) y:=by rw [t6,nM (by omega)];exact h7
 exact⟨_,by simp [execOp,Y,ax,Instr.loadAt,Instr.sureAddr,jh ti h5 hsz hag h8],_,rfl,h8⟩
def j4{q:Rp α}{hb:TypeId}(ho:dg base B w S O)(hm:hX q hb l cap xs∈O):(gJ q).rc S [aL l cap xs.length] xs:=Jv (pC (ho.mem _ hm).1)
end
def oz{α β γ:Type}(r:Rp α)(r' :Rp γ)(off:Nat)(q:Rp β)(x:α)(y:β)(x' :γ):Prop:= ∀S cs ds,r.rc S cs x->q.rc S ds y->r'.rc S (cs.take off++ds++cs.drop (off+q.sz)) x'
def pV{set:α->β->α}{x:α}{y:β}(h:ij r off q set):oz r r off q x y (set x y):=fun S cs ds Y J=>h S cs x ds y Y J
def jb{r' :Rp γ}{x:α}{y:γ}(hs:r.sz=r'.sz):oz r r' 0 r' x y y:=fun S cs ds Y J=>by
 have hl:=r.len Y
 rw [List.take_zero,je,Bq (by omega),rR]
 exact J
def Hb{α' :Type}{p:Rp α}{p' :Rp α'}{x:α×β}{y:γ}{x1:α'}(h:oz p p' 0 u x.1 y x1)(hu:Nat.ble u.sz p.sz=true):oz (cx p q) (cx p' q) 0 u x y (x1,x.2):=fun S cs ds ⟨a,b,e,Y,J⟩ hd=>by
 have hl:=p.len Y
 have hu' :=pz hu
 have Z:=h S a ds Y hd
 subst e
 rw [List.take_zero,je,pS,DD (by omega),<-jC]
 rw [List.take_zero,je,pS]at Z
 exact⟨_,_,rfl,Z,J⟩
def iX{β' :Type}{p:Rp α}{q' :Rp β'}{x:α×β}{y:γ}{off' :Nat}{x2:β'}(h:oz q q' off u x.2 y x2)(ho:off' =p.sz+off):oz (cx p q) (cx p q') off' u x y (x.1,x2):=fun S cs ds ⟨a,b,e,Y,J⟩ hd=>by
 have hl:=p.len Y
 have Z:=h S b ds J hd
 subst e ho
 refine⟨a,_,?_,Y,Z⟩
 have e1:p.sz+off-a.length=off:=by omega
 have e2:p.sz+off+u.sz-a.length=off+u.sz:=by omega
 rw [List.take_append,List.drop_append,nM (by omega),Bq (by omega),e1,e2]
 simp
def wK{α' β' :Type}{p:Rp α}{p' :Rp α'}{f:β->α}{f' :β' ->α'}{x:β}{x' :β'}{y:γ}{z:α'}(h:oz p p' off u (f x) y z)(e:f' x' =z):oz (nP p f) (nP p' f') off u x y x' :=fun S cs ds Y J=>by
 show p'.rc S _ (f' x')
 rw [e]
 exact h S cs ds Y J
section
variable{e:Exit}{ty:TypeId}
def ei{r' :Rp γ}{x:α}{x' :γ}{y:β}{p v:Operand}(ti:TI E.P U sz bytes agg z)(hsz:q.sz=sz)(hset:oz r r' off q x y x')(hoff:Nat.ble (off+q.sz) r.sz=true)(hp:aF E.N G p (tV (ax b off)))(hv:aF E.N G v (H q y))(k:RG E ops Q rest (bx r' hg b x' ::O) G):RG E ops Q (⟨none,.store U p v,ty,pos,after,none⟩::rest) (bx r hg b x::O) G:= .of rfl fun a w S st=>by
 have Y:a.eval p=ax b off:=hp S a st.facts
 obtain⟨ds,J,Z⟩:=hv S a st.facts
 obtain⟨⟨hno,cur,h5,h6⟩,_⟩:=st.own.1
 have hl:=r.len h6
 have hoff' :=pz hoff
 obtain⟨w',hr,e1,e2,e3,e4,e5,e6⟩:=iO ti hsz Z h5 (off:=off) (by simp at hl;omega)
 have hrun:(execOp a.eval ⟨none,.store U p v,ty,pos,after,none⟩).run E.P w= .ok .skip w' :=by
  simp [execOp,Y,J,Instr.storeAt,ax,Instr.sureAddr,hr]
 refine⟨fun c h=>(by cases h),?_⟩
 rw [hrun]
 obtain⟨g1,g2,g3⟩:=nD (O:=O) st.sat (bx r hg b x) (bx r' hg b x') st.own (fun _=>sr) (fun _=>sr) ⟨e1,e2,e3,e4.1,e4.2⟩ e6 ⟨hno,_,e5,by simpa using hset S _ _ h6 Z⟩ hno
 exact k _ _ S ⟨st.ext.step g1 (fun c hc=>st.own.1.2 c hc),g2,g3,st.facts⟩
end

section
variable{b:Frame}{k:List Item}{cs:List Frame}{F:Fence}
def nz:step P (lone (b.atR a (.code (.scope c)::k)) cs w)= .next (lone (b.atR a (.code c:: .inScope c::k)) cs w):=
 step_lone_go (by simp [stepG,stepG.exec,Frame.atR])
def Bu:step P (lone (b.atR a (.inScope c::k)) cs w)= .next (lone (b.atR a k) cs w):=
 step_lone_go (by simp [stepG,stepG.exec,Frame.atR])
def FD(h:c.wpIn F n P (Exit.noGoto Q) a w):(Code.scope c).wpIn F n P Q a w:=by
 intro b k cs hro V hr
 have h0:(lone (b.atR a (.code (.scope c)::k)) cs w).fenced P F:=fenced_calm V hr rfl
 obtain⟨e,a₁,w₁,hq,harr⟩:=h b (.inScope c::k) cs hro V hr
 cases e with
 |normal=>exact⟨.normal,a₁,w₁,hq,.head h0 nz (StepsIn.trans harr (.one (fenced_calm V hr rfl) Bu))⟩
 |exit id=>
  have I:exitTo id (.inScope c::k)=exitTo id k:=by simp [exitTo]
  exact⟨.exit id,a₁,w₁,hq,fun k' hk=> .head h0 nz (harr.1 k' (by rw [I];exact hk)),
   fun hr' hk=>let⟨k₁,Y,J⟩:=harr.2 hr' (by rw [I];exact hk);⟨k₁,Y,.head h0 nz J⟩⟩
 |goto l=>exact hq.elim
 |ret=>exact⟨_,a₁,w₁,hq,.of_steps (.one h0 nz) harr⟩
 |panic ch=>exact⟨_,a₁,w₁,hq,.of_steps (.one h0 nz) harr⟩
 |outgrown=>exact⟨_,a₁,w₁,hq,.of_steps (.one h0 nz) harr⟩
end
section
def Bc(h:CG E (Exit.noGoto Q) c O G):CG E Q (.scope c) O G:=fun a w S st=>FD (h a w S st)
def Bd{l:Nat}(h:AT E Q .normal O G):CG E Q (.label l) O G:=fun a w S st=>wpIn_label (h a w S st)
def qB(h:AT E Q .ret O G):AT E (Exit.noGoto Q) .ret O G:=h
end

def C7 [Inhabited α](h:i<m):mj (nQ r m) (i*r.sz) r (fun x=>(x[i]?).getD default):=fun S cs x ⟨Y,J⟩=>by
 have hi:x[i]? =some ((x[i]?).getD default):=by rw [rg (by omega)];rfl
 exact s9 J hi
def MQ [DecidableEq α] [Inhabited α]{t e:Nat}(D:P.underlying t=some (.array m e))(ti:TI P e sz bytes agg z)(hsz:r.sz=sz)(hag:r.agg=agg)(he:jM P e r n):jM P t (nQ r m) (n+1):=fun S cs ds x y d w I hy=>by
 obtain⟨i,zv,hi,hs,_⟩:=ti.get
 have hcell:P.cellsOf e=r.sz:=by unfold Program.cellsOf;rw [hi];simp [hs,hsz]
 have e1:(nQ r m).val cs= .agg cs.toArray:=rfl
 have e2:(nQ r m).val ds= .agg ds.toArray:=rfl
 rw [e1,e2,show d+(n+1)=(d+n)+1 from rfl,run_equalIn_array w (d+n) cs.toArray ds.toArray D hi,List.range_eq_range',hcell]
 have key: ∀k j,j+k=m->(Op.eqItems (d+n) e r.sz cs.toArray ds.toArray (List.range' j k)).run P w= .ok (decide (x.drop j=y.drop j)) w:=by
  intro k
  induction k with
  |zero=>
   intro j hj
   rw [Bq (by have:=I.1;omega),Bq (by have:=hy.1;omega)]
   rfl
  |succ k ih=>
   intro j hj
   have hjx:j<x.length:=by have:=I.1;omega
   have hjy:j<y.length:=by have:=hy.1;omega
   have Y:=qj ti hsz hag (C7 (r:=r) (m:=m) (i:=j) (by omega)) I w
   have J:=qj ti hsz hag (C7 (r:=r) (m:=m) (i:=j) (by omega)) hy w
   have Z:=he S _ _ _ _ d w (C7 (r:=r) (m:=m) (i:=j) (by omega) S cs x I) (C7 (r:=r) (m:=m) (i:=j) (by omega) S ds y hy)
   rw [List.range'_succ]
   unfold Op.eqItems
   simp only [sW,Y,J,Z,uc]
   have ex:x.drop j=(x[j]?).getD default::x.drop (j+1):=by rw [rg hjx];exact xB hjx
   have ey:y.drop j=(y[j]?).getD default::y.drop (j+1):=by rw [rg hjy];exact xB hjy
   rw [ex,ey]
   by_cases hq:(x[j]?).getD default=(y[j]?).getD default
   ·simp only [hq,decide_true,mq,jx,gE]
    rw [ih (j+1) (by omega)]
    congr 1
    simp
   ·simp [hq]
 have:=key m 0 (by omega)
 simpa using this
section
variable{ty:TypeId}
def u0{xs:List Operand}{sz' bytes' :Nat}{agg' :Bool}{z' :List Value}(D:E.P.underlying t=some (.array m hg))(ti:TI E.P hg sz bytes agg z)(hsz:r.sz=sz)(tj:TI E.P t sz' bytes' agg' z')(hz:z'.length=m*r.sz)(hm:m=ys.length)(I:il E.N G xs (ys.map (H r))):bT E O G ⟨dst,.build t (vE 0 xs).toArray,ty,pos,after,g⟩ (H (nQ r m) ys):=
 .of_pure fun a w S _ _ hF=>by
  obtain⟨zv,hzr,hzc⟩:=tj.zero w
  obtain⟨cs,hc,hfill⟩:=AI ys (xs.map a.eval) 0 [] z' (I.tys hF) (by simp) (by rw [hz,hm])
  subst hsz
  have hparts:((vE 0 xs).toArray.map fun(i,x)=>(i,a.eval x)).toList=yQ 0 (xs.map a.eval):=by simpa using ye a.eval 0 xs
  rw [je,je]at hfill
  refine⟨.agg cs.toArray,?_,cs,rfl,hm.symm,hc⟩
  simp only [execOp,Instr.build,sW,hzr,uc,jB D,ti.sizeOf,hzc,hparts,hfill]
  simp
end
end Go.Proofs.YtbmmihfagmchaaaGreat

