/- cP of this claim: W33, W34, W35, W36, W37, W38, W39, W40, W48, W50, W51, W41, W42, W43, W21, W27, W45, W46, W47, W52, W53, W56. -/
import Derived.Test.YtfhhakidodmdfaaGreatDoorJgV2
import Derived.Lib.Bytealg
import Derived.Maps.Range
import Derived.Laws.IdiomRangeMap
import Derived.Test.YtfhhakidodmdfaaGreatDoorJgV1
import Derived.Laws.BytesString
import Derived.Below
import Derived.ProofKit
import Derived.OpenShut
import Derived.LaidMore
import Derived.Laws.Externs
set_option linter.all false
namespace Go.Proofs.YtfhhakidodmdfaaGreatDoor
open Go

def xz(N:Nat):List Nat→List Oper→Bool
 |_,[]=>true
 |seen,o::rest=>match o.dst with
  |some d=>Nat.blt d N&& !(seen.any (Nat.beq d))&&xz N (d::seen) rest
  |none=>xz N seen rest
variable{N:Nat}{β:Type}{d:Nat}{o:Oper}{p:Operand}{q:Rp β}
theorem CY(l:List Oper): ∀(seen:List Nat),xz N seen l=true→
  (∀o:Oper,o∈l→ ∀d,o.dst=some d→d<N∧d∉seen)∧ ∀(i j:Nat) (o p:Oper) (d:Nat),l[i]? =some o→l[j]? =some p→o.dst=some d→p.dst=some d→i=j:=by
 induction l with
 |nil=>exact fun _ _=>⟨fun _ h=>(by cases h),fun _ _ _ _ _ h=>(by simp at h)⟩
 |cons o l ih=>
  intro seen h
  unfold xz at h
  cases hd:o.dst with
  |none=>
   rw [hd]at h
   obtain⟨h1,h2⟩:=ih seen h
   refine⟨fun q hq d hqd=>?_,fun i j p q d hi hj hp hq=>?_⟩
   ·rcases fk.1 hq with rfl|hq
    ·rw [hd]at hqd;cases hqd
    ·exact h1 q hq d hqd
   ·cases i with
    |zero=>simp at hi;subst hi;rw [hd]at hp;cases hp
    |succ i=>
     cases j with
     |zero=>simp at hj;subst hj;rw [hd]at hq;cases hq
     |succ j=>rw [h2 i j p q d (by simpa using hi) (by simpa using hj) hp hq]
  |some d0=>
   rw [hd]at h
   simp only [mi,wS,Dn]at h
   obtain⟨⟨g1,g2⟩,g3⟩:=h
   obtain⟨h1,h2⟩:=ih (d0::seen) g3
   have hns:d0∉seen:=fun hm=>by
    have:seen.any (Nat.beq d0)=true:=ud.2 ⟨d0,hm,Nat.beq_refl d0⟩
    rw [this]at g2;cases g2
   refine⟨fun q hq d hqd=>?_,fun i j p q d hi hj hp hq=>?_⟩
   ·rcases fk.1 hq with rfl|hq
    ·rw [hd]at hqd;cases hqd;exact⟨g1,hns⟩
    ·obtain⟨k1,k2⟩:=h1 q hq d hqd
     exact⟨k1,fun hm=>k2 (kN _ hm)⟩
   ·cases i with
    |zero=>
     cases j with
     |zero=>rfl
     |succ j=>
      simp at hi;subst hi
      rw [hd]at hp;cases hp
      exact absurd (kO ..) (h1 q (rU (by simpa using hj)) d0 hq).2
    |succ i=>
     cases j with
     |zero=>
      simp at hj;subst hj
      rw [hd]at hq;cases hq
      exact absurd (kO ..) (h1 p (rU (by simpa using hi)) d0 hp).2
     |succ j=>rw [h2 i j p q d (by simpa using hi) (by simpa using hj) hp hq]
def Kq:List Oper→List Ty→mu→mu
 |o::l,t::ts,G=>match o.dst with
  |some d=>(d,t)::Kq l ts G
  |none=>Kq l ts G
 |_,_,G=>G
variable{G:mu}{e:TypeId}{k:IntKind}{t:TypeId}{ts:List Ty}{u:Value}
theorem G8(l:List Oper): ∀(ts:List Ty) (k:Nat) (t:Ty),ts.length=l.length→de (Kq l ts G) k=some t→
  (∃(j:Nat) (o:Oper),l[j]? =some o∧o.dst=some k∧ts[j]? =some t)∨(de G k=some t∧ ∀o:Oper,o∈l→o.dst≠some k):=by
 induction l with
 |nil=>
  intro ts k t hl h
  have:ts=[]:=uf (by simpa using hl)
  subst this
  exact .inr ⟨h,fun _ h=>(by cases h)⟩
 |cons o l ih=>
  intro ts k t hl h
  cases ts with
  |nil=>simp at hl
  |cons u ts=>
   unfold Kq at h
   have hl' :ts.length=l.length:=by simpa using hl
   have lift:((∃(j:Nat) (p:Oper),l[j]? =some p∧p.dst=some k∧ts[j]? =some t)∨(de G k=some t∧ ∀p:Oper,p∈l→p.dst≠some k))→o.dst≠some k→
     (∃(j:Nat) (p:Oper),(o::l)[j]? =some p∧p.dst=some k∧(u::ts)[j]? =some t)∨(de G k=some t∧ ∀p:Oper,p∈o::l→p.dst≠some k):=by
    rintro(⟨j,p,h1,h2,h3⟩|⟨h1,h2⟩) hne
    ·exact .inl ⟨j+1,p,by simpa using h1,h2,by simpa using h3⟩
    ·exact .inr ⟨h1,fun p hp=>(fk.1 hp).elim (fun e=>by subst e;exact hne) (h2 p)⟩
   cases hd:o.dst with
   |none=>
    rw [hd]at h
    exact lift (ih ts k t hl' h) (by rw [hd];exact fun e=>by cases e)
   |some d=>
    rw [hd]at h
    simp only at h
    unfold de at h
    by_cases hb:Nat.beq d k=true
    ·rw [hb]at h
     have:=oT hb
     subst this
     have e:u=t:=by simpa using h
     subst e
     exact .inl ⟨0,o,rfl,hd,rfl⟩
    ·rw [xd]at hb
     rw [hb]at h
     refine lift (ih ts k t hl' h) ?_
     rw [hd]
     intro e
     have:d=k:=pR e
     subst this
     simp at hb
abbrev TS:=List Nat×(List OI→Ty)
def TS.at(p:TS)(σ:Nat→OI):Ty:=p.2 (p.1.map σ)
def tc(t:Ty):TS:=([],fun _=>t)
def QJ(Ss:List ((Nat→OI)→List OE))(c:Nat)(σ:Nat→OI):List OE:=match Ss[c]? with|some f=>f σ|none=>[]
structure NS where
 slot:Nat
 ty:(Nat→OI)→Ty
 src:Option Nat
def NS.at(n:NS)(σ:Nat→OI):Nd:=⟨n.slot,n.ty σ,n.src⟩
def Wk(G:mu)(ts:List TS)(n:NS):Prop:=
 match n.src with
 |some j=> ∀σ,(ts[j]?).map (fun p=>p.at σ)=some (n.ty σ)
 |none=> ∀σ,de G n.slot=some (n.ty σ)
def wR(G:mu)(ts:List TS):List NS→Prop
 |[]=>True
 |n::l=>Wk G ts n∧wR G ts l
variable{n:Nat}
theorem wR.mem{ts:List TS}: ∀{l:List NS},wR G ts l→ ∀n∈l,Wk G ts n
 |_::_,⟨h,_⟩,_,.head _=>h
 |_::_,⟨_,h⟩,_,.tail _ hm=>wR.mem h _ hm
def wK(l:List NS)(σ:Nat→OI):mu:=j6 (l.map (·.at σ))
def Tk(ts:List TS)(σ:Nat→OI):List Ty:=ts.map fun p=>p.at σ
def Qm(L:List Oper)(es:List Bool)(i:Nat)(p:TS):Bool:=p.1.all fun k=>(es[k]?).getD false&&(Nat.beq k i||nK L L.length i k)
def XO(L:List Oper)(es:List Bool)(i lo hi:Nat):Bool:=
 Nat.ble lo (gE es es.length)&&(List.range es.length).all fun k=> !((es[k]?).getD false)||((Nat.ble lo (gE es k)||nK L L.length i k)&&(Nat.blt (gE es k) hi||nK L L.length k i))
def DS(E:En)(G:mu)(L:List Oper)(ts:List TS)(Ss:List ((Nat→OI)→List OE))(es0:List Bool):Nat→Nat→List Oper→List Bool→Prop
 |_,_,[],_=>True
 |i,c,o::rest,false::es=>(∃(needs:List NS) (t:TS) (lo hi:Nat),ts[i]? =some t∧wR G ts needs∧(needs.all fun n=>p7 L o i (n.at fun _=>pS))=true∧eF i o=true∧Qm L es0 i t=true∧XO L es0 i lo hi=true∧o.dst.isSome=true∧
   ∀c σ,lo≤c→c≤hi→cv E (QJ Ss c σ) L.toArray (wK needs σ) o (t.at σ))∧DS E G L ts Ss es0 (i+1) c rest es
 |i,c,o::rest,true::es=>(∃(needs:List NS) (t:TS),ts[i]? =some t∧wR G ts needs∧(needs.all fun n=>p7 L o i (n.at fun _=>pS))=true∧eF i o=true∧Qm L es0 i t=true∧
   ∀σ,rO E L.toArray (QJ Ss c σ) (wK needs σ) o (fun x=>QJ Ss (c+1) (LY σ i x)) (fun x=>t.at (LY σ i x)))∧DS E G L ts Ss es0 (i+1) (c+1) rest es
 |_,_,_::_,[]=>False
variable{E:En}{L:List Oper}{Ss:List ((Nat→OI)→List OE)}{α:Type}{c:Code}{es:List Bool}{lo:Int}{r:Rp α}{x:Operand}{σ:Nat→OI}
theorem DS.get{ts:List TS}{es0:List Bool}: ∀(r:List Oper) (es:List Bool) (k c:Nat),DS E G L ts Ss es0 k c r es→ ∀(j:Nat) (o:Oper),r[j]? =some o→
    ∃e,es[j]? =some e∧ ∃(needs:List NS) (t:TS),ts[k+j]? =some t∧wR G ts needs∧(needs.all fun n=>p7 L o (k+j) (n.at fun _=>pS))=true∧eF (k+j) o=true∧Qm L es0 (k+j) t=true∧
      (match e with
       |false=>o.dst.isSome=true∧ ∃lo hi,XO L es0 (k+j) lo hi=true∧ ∀c σ,lo≤c→c≤hi→cv E (QJ Ss c σ) L.toArray (wK needs σ) o (t.at σ)
       |true=> ∀σ,rO E L.toArray (QJ Ss (c+gE es j) σ) (wK needs σ) o (fun x=>QJ Ss (c+gE es j+1) (LY σ (k+j) x)) (fun x=>t.at (LY σ (k+j) x))):=by
  intro r
  induction r with
  |nil=>intro es k c _ j o h;simp at h
  |cons p r ih=>
    intro es k c h j o ho
    cases es with
    |nil=>exact h.elim
    |cons e es=>
      cases e with
      |false=>
        obtain⟨⟨needs,t,lo,hi,g1,g2,g3,g4,g5,g6,g7,g8⟩,h2⟩:=h
        cases j with
        |zero=>
          simp at ho;subst ho
          exact⟨false,rfl,needs,t,g1,g2,g3,g4,g5,g7,lo,hi,g6,g8⟩
        |succ j=>
          obtain⟨e',g1,g2⟩:=ih es (k+1) _ h2 j o (by simpa using ho)
          refine⟨e',by simpa using g1,?_⟩
          rw [show k+1+j=k+(j+1)from by omega]at g2
          have e1:c+gE (false::es) (j+1)=c+gE es j:=by simp [gE]
          rw [e1];exact g2
      |true=>
        obtain⟨h1,h2⟩:=h
        cases j with
        |zero=>
          simp at ho;subst ho
          exact⟨true,rfl,h1⟩
        |succ j=>
          obtain⟨e',g1,g2⟩:=ih es (k+1) _ h2 j o (by simpa using ho)
          refine⟨e',by simpa using g1,?_⟩
          rw [show k+1+j=k+(j+1)from by omega]at g2
          have e1:c+gE (true::es) (j+1)=c+1+gE es j:=by simp [gE];omega
          rw [e1];exact g2
structure Xo(E:En)(G:mu)(l:List Oper)(ts:List TS)(Ss:List ((Nat→OI)→List OE))(es:List Bool)(done:Array Bool)(a:Act)(w:World)(S:SH)(σ:Nat→OI)(c:Nat):Prop where
 ext:fY E.B E.w0 E.S0 w S
 sat:jy w S
 own:cJ E.base E.B w S (QJ Ss c σ)
 size:a.tmps.size=E.N.n
 defers:a.defers=E.N.ds
 dsz:done.size=l.length
 down: ∀j o,l[j]? =some o→done.getD j false=true→ ∀e∈o.after,Region.binds .any e=true→done.getD e.on false=true
 old: ∀k t,de G k=some t→(∀j o,l[j]? =some o→done.getD j false=true→o.dst≠some k)→t.p S (a.tmps.getD k undef)
 new: ∀j o d p,l[j]? =some o→done.getD j false=true→o.dst=some d→ts[j]? =some p→(p.at σ).p S (a.tmps.getD d undef)
 deps: ∀j p,done.getD j false=true→ts[j]? =some p→ ∀k∈p.1,done.getD k false=true
 chain: ∀k,es[k]? =some true→(done.getD k false=true↔gE es k<c)
variable{S S' :SH}{a:Act}{b:Nat}{done:Array Bool}{f:FuncId}{κ:Type}{m:List (κ×β)}{v:Value}{w w' :World}
section
variable{ts:List TS}
theorem Xo.need{c:Nat}(h:Xo E G L ts Ss es done a w S σ c){i:Nat}(hi:L[i]? =some o)(hun:done.getD i true=false)(hwait: ∀e∈o.after,Region.binds .any e=true→done.getD e.on false=true){needs:List NS}(h1:wR G ts needs)(h2:(needs.all fun n=>p7 L o i (n.at fun _=>pS))=true):cP E.N S a (wK needs σ):=by
 have hlt:i<done.size:=by rw [h.dsz];exact(jM.1 hi).1
 have hun' :done.getD i false=false:=by
  simp [hlt]at hun ⊢;exact hun
 refine⟨h.size,h.defers,?_⟩
 have key: ∀n∈needs,(n.ty σ).p S (a.tmps.getD n.slot undef):=by
  intro n hn
  have hs:=jZ.1 h2 n hn
  have ho:=h1.mem n hn
  unfold p7 NS.at at hs
  unfold Wk at ho
  cases hsrc:n.src with
  |some j=>
   rw [hsrc]at hs ho
   simp only [mi]at hs
   obtain⟨hs1,hs2⟩:=hs
   cases hj:L[j]? with
   |none=>rw [hj]at hs1;cases hs1
   |some p=>
    rw [hj]at hs1
    cases hd:p.dst with
    |none=>simp only [hd]at hs1;cases hs1
    |some d=>
     simp only [hd]at hs1
     have hd' :=oT hs1
     subst hd'
     have hdone:done.getD j false=true:=by
      unfold CV at hs2
      obtain⟨e,he0,hb⟩:=ud.1 hs2
      have he:e∈o.after:=by simpa using he0
      simp only [mi]at hb
      have:=hwait e he hb.2
      rwa [oT hb.1]at this
     have hm:=ho σ
     cases hf:ts[j]? with
     |none=>rw [hf]at hm;simp at hm
     |some f=>
      rw [hf]at hm
      have e:f.at σ=n.ty σ:=by simpa using hm
      rw [←e]
      exact h.new j p n.slot f hj hdone hd hf
  |none=>
   rw [hsrc]at hs ho
   refine h.old _ _ (ho σ) fun j p hj hdone hd=>?_
   have:=jZ.1 hs p (rU hj)
   simp only [hd,Nat.beq_refl,mw,se]at this
   unfold CV at this
   obtain⟨e,he0,hb⟩:=ud.1 this
   have he:e∈p.after:=by simpa using he0
   simp only [mi]at hb
   have h3:=h.down j p hj hdone e he hb.2
   rw [oT hb.1]at h3
   rw [h3]at hun'
   cases hun'
 clear h1 h2
 intro k t hk
 unfold wK at hk
 induction needs with
 |nil=>simp [j6,de]at hk
 |cons n needs ih=>
  simp only [AB]at hk
  unfold j6 de at hk
  by_cases hb:Nat.beq n.slot k=true
  ·have hb' :Nat.beq (n.at σ).slot k=true:=hb
   rw [hb']at hk
   have:=oT hb
   subst this
   have h9:some (n.at σ).ty=some t:=by simpa using hk
   have e:n.ty σ=t:=pR h9
   rw [←e]
   exact key n (kO ..)
  ·rw [xd]at hb
   have hb' :Nat.beq (n.at σ).slot k=false:=hb
   rw [hb']at hk
   exact ih (fun m hm=>key m (kN _ hm)) hk
theorem Xo.step{σ' :Nat→OI}{c c' :Nat}(h:Xo E G L ts Ss es done a w S σ c){i:Nat}{p0:TS}{C:Nat→Prop}(hi:L[i]? =some o)(hdN: ∀d,o.dst=some d→d<E.N.n)(hs2: ∀d,o.dst=some d→ ∀j p,L[j]? =some p→done.getD j false=true→p.dst=some d→i=j)(hwait: ∀e∈o.after,Region.binds .any e=true→done.getD e.on false=true)(ht:ts[i]? =some p0)(hun:done.getD i true=false)(hdep: ∀k∈p0.1,k=i∨done.getD k false=true)(hext:fY C w S w' S')(hC: ∀b,C b→E.base≤b∨E.B b)(hsat:jy w' S')(hown:cJ E.base E.B w' S' (QJ Ss c' σ'))(hσ: ∀k,k≠i→σ' k=σ k)(hv:(p0.at σ').p S' v)(hch: ∀k,es[k]? =some true→((done.setIfInBounds i true).getD k false=true↔gE es k<c')):
  Xo E G L ts Ss es (done.setIfInBounds i true) (a.put o.dst v) w' S' σ' c' :=by
 have hlt:i<done.size:=by rw [h.dsz];exact(jM.1 hi).1
 have hset: ∀j,(done.setIfInBounds i true).getD j false=true→j=i∨done.getD j false=true:=fun j hj=>by
  by_cases hij:i=j
  ·exact .inl hij.symm
  ·rw [u0 false hij]at hj;exact .inr hj
 have hseti:(done.setIfInBounds i true).getD i false=true:=by simp [hlt]
 have hun' :done.getD i false=false:=by simp [hlt]at hun ⊢;exact hun
 have hput: ∀k,(∀d,o.dst=some d→d≠k)→(a.put o.dst v).tmps.getD k undef=a.tmps.getD k undef:=fun k hk=>by
  cases hd:o.dst with
  |none=>rfl
  |some d=>
   have hda:d<a.tmps.size:=by rw [h.size];exact hdN d hd
   rw [rj hda,aL (hk d hd)]
 refine⟨h.ext.step hext hC,hsat,hown,?_,?_,by simp [h.dsz],fun j p hj hdone e he hb=>?_,fun k u hk hno=>?_,fun j p d' u hj hdone hd' hu=>?_,fun j u hj hu k hk=>?_,hch⟩
 ·cases o.dst with
  |none=>exact h.size
  |some d=>simp [Act.put,h.size]
 ·cases o.dst with
  |none=>exact h.defers
  |some d=>exact h.defers
 ·rcases hset j hdone with rfl|hj'
  ·rw [hi]at hj
   have:o=p:=by simpa using hj
   subst this
   exact vK (hwait e he hb)
  ·exact vK (h.down j p hj hj' e he hb)
 ·rw [hput k fun d hd e=>hno i o hi hseti (by rw [hd,e])]
  exact u.mono hext.keep (h.old k u hk fun j p hj hdone=>hno j p hj (vK hdone))
 ·by_cases hij:j=i
  ·subst hij
   rw [hi]at hj
   have:o=p:=by simpa using hj
   subst this
   have hda:d' <a.tmps.size:=by rw [h.size];exact hdN d' hd'
   rw [hd',rj hda,aY rfl]
   rw [ht]at hu
   have:p0=u:=by simpa using hu
   subst this
   exact hv
  ·have hj' :=(hset j hdone).resolve_left hij
   rw [hput d' fun d hd e=>by subst e;exact hij (hs2 d hd j p hj hj' hd').symm]
   have e1:u.at σ' =u.at σ:=congrArg u.2 (GG fun k hk=>hσ k fun e=>by
     subst e
     rw [h.deps j u hj' hu k hk]at hun';cases hun')
   rw [e1]
   exact Ty.mono _ hext.keep (h.new j p d' u hj hj' hd' hu)
 ·rcases hset j hj with rfl|hj'
  ·rw [ht]at hu
   have:p0=u:=by simpa using hu
   subst this
   rcases hdep k hk with rfl|h'
   ·exact hseti
   ·exact vK h'
  ·exact vK (h.deps j u hj' hu k hk)
end
variable{Q:Exit→Act→World→Prop}
theorem Jz{l t:List Oper}{ts:List TS}(hsl:xz E.N.n [] l=true)(hlen:ts.length=l.length)(hesl:es.length=l.length)(hd:DS E G (l++t) ts Ss es 0 0 l es)(hch:Ns (l++t) es=true)(ht:zl (l++t) l.length t.length=true)(hQ: ∀a w S σ,St E (QJ Ss (gE es es.length) σ) (Kq l (Tk ts σ) G) a w S→wpListIn (fw E.r) 0 E.P (l++t).toArray Q t a w):
  ∀(fuel:Nat) (done:Array Bool) (a:Act) (w:World) (S:SH) (σ:Nat→OI) (c:Nat),lv done=fuel→(∀j,l.length≤j→done.getD j false=false)→c≤gE es es.length→Xo E G (l++t) ts Ss es done a w S σ c→wpAnyIn (fw E.r) 0 E.P .any (l++t).toArray Q fuel done a w:=by
 have hL1: ∀i o,i<l.length→(l++t)[i]? =some o→l[i]? =some o:=fun i o hi h=>by rwa [xi hi]at h
 have hL2: ∀i o,l[i]? =some o→(l++t)[i]? =some o:=fun i o h=>by rw [xi (jM.1 h).1];exact h
 have htail: ∀m o,l.length≤m→(l++t)[m]? =some o→wv (l++t) m=true∧eF m o=true:=fun m o hm ho=>by
  have hml:m<(l++t).length:=(jM.1 ho).1
  rw [iI]at hml
  unfold zl at ht
  have:=jZ.1 ht (m-l.length) (by simp;omega)
  rw [show l.length+(m-l.length)=m from by omega,ho]at this
  simp only [mi]at this
  exact⟨this.1,this.2.1⟩
 have hget:=fun i o (hi:l[i]? =some o)=>DS.get l es 0 0 hd i o hi
 have hedge: ∀i o,(l++t)[i]? =some o→eF i o=true:=fun i o hi=>by
  rcases m8 i l.length with h|h
  ·obtain⟨_,_,_,_,_,_,_,h,_⟩:=hget i o (hL1 i o h hi)
   simpa using h
  ·exact(htail i o h hi).2
 obtain⟨hs1,hs2⟩:=CY l [] hsl
 have fin: ∀fuel done a w S σ c,lv done=fuel→(∀j,l.length≤j→done.getD j false=false)→c≤gE es es.length→Xo E G (l++t) ts Ss es done a w S σ c→(∀i,i<l.length→done.getD i false=true)→wpAnyIn (fw E.r) 0 E.P .any (l++t).toArray Q fuel done a w:=by
  intro fuel done a w S σ c hu hfree hcle h hall
  have hcc:c=gE es es.length:=by
   rcases m8 c (gE es es.length)with hlt|hge
   ·obtain⟨i,h1,h2,h3⟩:=wz hlt
    have:=(h.chain i h2).1 (hall i (by omega))
    omega
   ·omega
  subst hcc
  refine zR (n:=l.length) (fun m o hm ho=>(htail m o hm ho).1) hedge t l.length done fuel a w (dy _) (by simp) h.dsz (fun j hj=>⟨fun hjd=>?_,fun hlt=>hall j hlt⟩) hu
   (hQ a w S σ ⟨h.ext,h.sat,h.own,h.size,h.defers,fun j u hj=>?_⟩)
  ·rcases m8 j l.length with h' |h'
   ·exact h'
   ·rw [hfree j h']at hjd;cases hjd
  ·rcases G8 l (Tk ts σ) j u (by unfold Tk;rw [AK];exact hlen) hj with⟨i,o,h1,h2,h3⟩|⟨h1,h2⟩
   ·unfold Tk at h3
    rw [AL]at h3
    cases hf:ts[i]? with
    |none=>rw [hf]at h3;simp at h3
    |some f=>
     rw [hf]at h3
     have e:f.at σ=u:=by simpa using h3
     rw [←e]
     exact h.new i o j f (hL2 i o h1) (hall i (jM.1 h1).1) h2 hf
   ·refine h.old j u h1 fun i o ho hdn=>?_
    rcases m8 i l.length with h' |h'
    ·exact h2 o (rU (hL1 i o h' ho))
    ·rw [hfree i h']at hdn;cases hdn
 have lower: ∀done a w S σ c i,(∀j,l.length≤j→done.getD j false=false)→Xo E G (l++t) ts Ss es done a w S σ c→i∈Region.ready .any (l++t).toArray done→l.length≤i→ ∀j,j<l.length→done.getD j false=true:=by
  intro done a w S σ c i hfree h hi hge j hj
  obtain⟨hun,p,hp,hwait⟩:=sZ.1 hi
  have hp' :(l++t)[i]? =some p:=by simpa using hp
  have hcov:=(htail i p hge hp').1
  unfold wv at hcov
  have hre:=jZ.1 hcov j (by simp;omega)
  exact gg h.down _ i j (fun q hq e he hb=>by
   have:q=p:=by rw [hp']at hq;simpa using hq.symm
   subst this
   exact hwait e he hb) hre
 have hchain: ∀i j,j<i→es[i]? =some true→es[j]? =some true→nK (l++t) (l++t).length i j=true:=fun i j hij h1 h2=>by
  unfold Ns at hch
  have hil:i<es.length:=(jM.1 h1).1
  have:=jZ.1 (jZ.1 hch i (by simpa using hil)) j (by simpa using hij)
  rw [h1,h2]at this
  simpa using this
 intro fuel
 induction fuel with
 |zero=>
  intro done a w S σ c hu hfree hcle h
  exact fin 0 done a w S σ c hu hfree hcle h fun i hi=>uj hu (by rw [h.dsz,iI];omega)
 |succ fuel ih=>
  intro done a w S σ c hu hfree hcle h
  by_cases hall: ∀i,i<l.length→done.getD i false=true
  ·exact fin _ done a w S σ c hu hfree hcle h hall
  have hready0: ∀m i,i<m→i<l.length→Region.ready .any (l++t).toArray done=[]→done.getD i false=true:=by
   intro m
   induction m with
   |zero=>intro i h;omega
   |succ m ihm=>
    intro i him hil hr
    have his:i<done.size:=by rw [h.dsz,iI];omega
    by_cases hdn:done.getD i true=true
    ·rw [←oH his];exact hdn
    ·exfalso
     obtain⟨o,ho⟩: ∃o,(l++t)[i]? =some o:=⟨l[i],hL2 i _ (oO hil)⟩
     have hmem:i∈Region.ready .any (l++t).toArray done:=by
      rw [sZ]
      refine⟨by simpa using hdn,o,by simpa using ho,fun e he hb=>?_⟩
      have:=hedge i o ho
      unfold eF at this
      have:=jZ.1 this e (by simpa using he)
      simp only [hb,mw,se,wS]at this
      exact ihm e.on (by omega) (by omega) hr
     rw [hr]at hmem;cases hmem
  refine⟨fun hr=>absurd (fun i hi=>hready0 (i+1) i (by omega) hi hr) hall,fun i hi=>?_⟩
  have hil:i<l.length:=by
   rcases m8 i l.length with h' |h'
   ·exact h'
   ·exact absurd (lower done a w S σ c i hfree h hi h') hall
  obtain⟨hun,o,ho,hwait⟩:=sZ.1 hi
  have ho' :(l++t)[i]? =some o:=by simpa using ho
  have hol:=hL1 i o hil ho'
  obtain⟨e,he,needs,u,h1,h2,h3,_,h4,h5⟩:=hget i o hol
  rw [uc]at h1 h3 h4
  have hF:=h.need ho' hun hwait h2 h3
  have his:i<done.size:=by rw [h.dsz,iI];omega
  have hun' :done.getD i false=false:=by rw [←oH his];exact hun
  have hu' :lv (done.setIfInBounds i true)=fuel:=by have:=qH hun;omega
  have huq: ∀d,o.dst=some d→ ∀j p,(l++t)[j]? =some p→done.getD j false=true→p.dst=some d→i=j:=fun d hdd j p hj hjd hpd=>by
   rcases m8 j l.length with h' |h'
   ·exact hs2 i j o p d hol (hL1 j p h' hj) hdd hpd
   ·rw [hfree j h']at hjd;cases hjd
  have hfree' : ∀j,l.length≤j→(done.setIfInBounds i true).getD j false=false:=fun j hj=>by
   rw [u0 false (by omega)];exact hfree j hj
  have hbl:E.base≤w.heap.size:=h.ext.size
  have hwaits: ∀q,(l++t)[i]? =some q→ ∀e∈q.after,Region.binds .any e=true→done.getD e.on false=true:=fun q hq e he hb=>by
   have:q=o:=by rw [ho']at hq;simpa using hq.symm
   subst this
   exact hwait e he hb
  have hdpp: ∀k∈u.1,k=i∨done.getD k false=true:=fun k hk=>by
   have:=jZ.1 h4 k hk
   simp only [mi,pW]at this
   rcases this.2 with hb|hb
   ·exact .inl (oT hb)
   ·exact .inr (gg h.down _ i k hwaits hb)
  have hdNN: ∀d,o.dst=some d→d<E.N.n:=fun d hd=>(hs1 o (rU hol) d hd).1
  unfold wpOpIn
  rw [ho]
  show if _ then _ else _
  cases e with
  |false=>
   simp only at h5
   obtain⟨hdS,lo,hi',hwin,h5⟩:=h5
   rw [uc]at hwin
   obtain⟨d,hdd⟩:=Option.isSome_iff_exists.1 hdS
   have hdN:=(hs1 o (rU hol) d hdd).1
   unfold XO at hwin
   rw [mi]at hwin
   obtain⟨hw1,hw2⟩:=hwin
   have hw1' :=pj hw1
   have hwk: ∀k,es[k]? =some true→(Nat.ble lo (gE es k)=true∨nK (l++t) (l++t).length i k=true)∧(Nat.blt (gE es k) hi' =true∨nK (l++t) (l++t).length k i=true):=fun k hk=>by
    have hkl:k<es.length:=(jM.1 hk).1
    have:=jZ.1 hw2 k (by simpa using hkl)
    rw [hk]at this
    simpa using this
   have hlo:lo≤c:=by
    rcases m8 c lo with hlt|hge
    ·exfalso
     obtain⟨k,hk1,hk2,hk3⟩:=wz (es:=es) (c:=c) (k:=es.length) (by omega)
     rcases(hwk k hk2).1 with hb|hb
     ·have:=pj hb;omega
     ·have:=(h.chain k hk2).1 (gg h.down _ i k hwaits hb)
      omega
    ·exact hge
   have hhi:c≤hi' :=by
    rcases m8 hi' c with hlt|hge
    ·exfalso
     obtain⟨k,hk1,hk2,hk3⟩:=wz (es:=es) (c:=hi') (k:=es.length) (by omega)
     rcases(hwk k hk2).2 with hb|hb
     ·simp only [wS]at hb;omega
     ·have hkd:done.getD k false=true:=(h.chain k hk2).2 (by omega)
      have:=gg h.down _ k i (fun q hq e he hb=>h.down k q hq hkd e he hb) hb
      rw [this]at hun';cases hun'
    ·exact hge
   have h6:=h5 c σ hlo hhi a w S h.sat h.own hF
   have hch' : ∀k,es[k]? =some true→((done.setIfInBounds i true).getD k false=true↔gE es k<c):=fun k hk=>by
    have hne:i≠k:=fun e=>by subst e;rw [he]at hk;cases hk
    rw [u0 false hne];exact h.chain k hk
   by_cases hw:Region.wanted o (yielded (l++t).toArray a.tmps)=true
   ·rw [aY hw]at h6 ⊢
    refine k5 (fun a' w' ⟨v,S',ha,hx,hs,hv⟩=>?_) h6
    subst ha
    exact ih _ _ _ S' _ c hu' hfree' hcle (h.step ho' hdNN huq hwait h1 hun hdpp hx (fun _ hb=>hb.elim) hs (h.own.ext0 hx) (fun _ _=>rfl) hv hch')
   ·rw [aL hw]at h6 ⊢
    exact⟨fun _ _=>trivial,ih _ _ _ S _ c hu' hfree' hcle (h.step ho' hdNN huq hwait h1 hun hdpp (fY.refl pT _ _) (fun _ hb=>hb.elim) h.sat h.own (fun _ _=>rfl) h6 hch')⟩
  |true=>
   simp only [uc]at h5
   -- it is the next one of the chain
   have hca:gE es i=c:=by
    have hn: ¬gE es i<c:=fun hlt=>by rw [(h.chain i he).2 hlt]at hun';cases hun'
    rcases m8 c (gE es i)with hlt|hge
    ·exfalso
     obtain⟨k,hk1,hk2,hk3⟩:=wz hlt
     have hkd:done.getD k false=true:=gg h.down _ i k hwaits (hchain i k hk1 he hk2)
     have:=(h.chain k hk2).1 hkd
     omega
    ·omega
   subst hca
   have h6:=h5 σ a w S h.sat h.own hF hbl
   have hch' : ∀k,es[k]? =some true→((done.setIfInBounds i true).getD k false=true↔gE es k<gE es i+1):=fun k hk=>by
    by_cases hik:i=k
    ·subst hik
     constructor
     ·intro _;omega
     ·intro _;simp [his]
    ·rw [u0 false hik,h.chain k hk]
     constructor
     ·intro h;omega
     ·intro hlt
      rcases m8 i k with hlk|hlk
      ·have:=FK hlk he;omega
      ·exact FK (by omega) hk
   have hcle' :gE es i+1≤gE es es.length:=FK (by omega) he
   by_cases hw:Region.wanted o (yielded (l++t).toArray a.tmps)=true
   ·rw [aY hw]at h6 ⊢
    refine k5 (fun a' w' ⟨v,S',x,ha,hx,hs,hown,hv⟩=>?_) h6
    subst ha
    exact ih _ _ _ S' _ _ hu' hfree' hcle' (h.step ho' hdNN huq hwait h1 hun hdpp hx (fun b ⟨f,hf,hb⟩=>(cJ.mem h.own f hf).2 b hb) hs hown (fun k hk=>Ef σ x hk) hv hch')
   ·rw [aL hw]at h6 ⊢
    obtain⟨x,hown,hv⟩:=h6
    exact⟨fun _ _=>trivial,ih _ _ _ S _ _ hu' hfree' hcle' (h.step ho' hdNN huq hwait h1 hun hdpp (fY.refl pT _ _) (fun _ hb=>hb.elim) h.sat hown (fun k hk=>Ef σ x hk) hv hch')⟩
variable{O:List OE}
theorem o9{id:Nat}(m:Nat)(ts:List TS)(es:List Bool)(Ss:List ((Nat→OI)→List OE))(hO:Ss[0]? =some fun _=>O)(hm:E.P.follows .mixedOrders=true)(hsl:xz E.N.n [] (L.take m)=true)(hlen:ts.length=(L.take m).length)(hesl:es.length=(L.take m).length)(hch:Ns L es=true)(ht:zl L (L.take m).length (L.drop m).length=true)(hd:DS E G L ts Ss es 0 0 (L.take m) es)(k: ∀σ:Nat→OI,RG E L.toArray Q (L.drop m) (QJ Ss (gE es es.length) σ) (Kq (L.take m) (Tk ts σ) G)):CG E Q (.region id L.toArray true) O G:=fun a w S st=>by
 have hL:L=L.take m++L.drop m:=(vR m L).symm
 generalize L.take m=l at hL hsl hlen hesl ht hd k
 generalize L.drop m=t at hL ht k
 subst hL
 refine wpIn_region_any hm ?_
 obtain⟨he,hs⟩:=yj (w:=w) st.sat
 have hO0:QJ Ss 0 (fun _=>pS)=O:=by unfold QJ;rw [hO]
 refine Jz hsl hlen hesl hd hch ht (fun a w S σ st=>k σ a w S st) _ _ _ _ S (fun _=>pS) 0 ?_ (fun j _=>?_) (lF _)
  ⟨st.ext.step0 he,hs,by rw [hO0];exact st.own.ext0 he,st.facts.size,st.facts.defers,by simp,fun j o hj hdone=>?_,fun k t hk _=>st.facts.at_ k t hk,fun j o d t hj hdone=>?_,fun j p hdone=>?_,fun k _=>⟨fun hdone=>?_,fun h=>(by omega)⟩⟩
 ·unfold lv;rw [NN,NK];simp
 ·simp [zP];split<;>rfl
 ·simp [zP]at hdone
  split at hdone<;>simp at hdone
 ·simp [zP]at hdone
  split at hdone<;>simp at hdone
 ·simp [zP]at hdone
  split at hdone<;>simp at hdone
 ·simp [zP]at hdone
  split at hdone<;>simp at hdone
theorem zS{p:Nat→(Nat→OI)→Prop}{lo:Nat}(h: ∀σ,p lo σ): ∀c σ,lo≤c→c≤lo→p c σ:=fun c σ h1 h2=>by
 have:c=lo:=by omega
 subst this;exact h σ
theorem F6{p:Nat→(Nat→OI)→Prop}{lo hi:Nat}(h: ∀σ,p lo σ)(k: ∀c σ,lo+1≤c→c≤hi→p c σ): ∀c σ,lo≤c→c≤hi→p c σ:=fun c σ h1 h2=>by
 by_cases e:c=lo
 ·subst e;exact h σ
 ·exact k c σ (by omega) h2
variable{after:Array Edge}{g:Option (Nat×Bool)}{ok:α→Prop}{pos:String}{post:OI→List OE}
theorem Fw{op:Op}{ty:TypeId}(hnd: ∀c,op≠ .defer c)(h: ∀a w S,jy w S→cJ E.base E.B w S O→cP E.N S a G→E.base≤w.heap.size→ ∃w' S' x,(execOp a.eval ⟨none,op,ty,pos,after,g⟩).run E.P w= .ok .skip w' ∧fY (Af O) w S w' S' ∧jy w' S' ∧cJ E.base E.B w' S' (post x)):
  EffOK E O G ⟨none,op,ty,pos,after,g⟩ post (fun _=>Dq):=fun a w S hs ho hf hb=>by
 obtain⟨w',S',x,h1,h2,h3,h4⟩:=h a w S hs ho hf hb
 refine⟨hnd,?_⟩
 rw [h1]
 exact⟨undef,S',x,rfl,h2,h3,h4,trivial⟩

abbrev HL:=List (Nat×Value)
def Bl:HL→Nat→Option Value
 |[],_=>none
 |p::hs,o=>bif Nat.beq p.1 o then some p.2 else Bl hs o
theorem yK: ∀{hs:HL} {o:Nat} {v:Value},Bl hs o=some v→(o,v)∈hs
 |[],_,_,h=>by cases h
 |p::hs,o,v,h=>by
  unfold Bl at h
  by_cases hb:Nat.beq p.1 o=true
  ·rw [hb]at h
   have e1:=oT hb
   have e2:p.2=v:=pR h
   subst e1 e2
   exact kO ..
  ·rw [xd]at hb
   rw [hb]at h
   exact kN _ (yK h)
def rH{α:Type}(r:Rp α)(hs:HL):Rp α where
 sz:=r.sz
 agg:=r.agg
 rc:=fun S cs x=>r.rc S cs x∧ ∀p∈hs,cs[p.1]? =some p.2
 mono:=fun h k=>⟨r.mono h k.1,k.2⟩
 len:=fun k=>r.len k.1
 one:=fun k=>r.one k.1
 sc:=r.sc
variable{cs:List Value}{off:Nat}
theorem Uw{hs:HL}{get:α→β}(h:qu r off q get):qu (rH r hs) off q get:=fun S cs x k=>h S cs x k.1
theorem Qr(h:cs[off]? =some v):(cs.drop off).take 1=[v]:=by
 have hlt:=(jM.1 h).1
 rw [wV hlt,(jM.1 h).2]
 rfl
theorem act{hs:HL}(h:Bl hs off=some v):qu (rH r hs) off rV (fun _=>v):=fun S cs x k=>by
 have h1:=k.2 _ (yK h)
 exact⟨Qr h1,r.one k.1 v (rU h1)⟩
def HZ(z:List Value):HL→Prop
 |[]=>True
 |p::hs=>z[p.1]? =some p.2∧HZ z hs
variable{z:List Value}
theorem HZ.all: ∀{hs:HL},HZ z hs→ ∀p∈hs,z[p.1]? =some p.2
 |_::_,⟨h,_⟩,_,.head _=>h
 |_::_,⟨_,h⟩,_,.tail _ hm=>HZ.all h _ hm
theorem zH{x:α}{hs:HL}(h: ∀S,r.rc S z x)(k:HZ z hs): ∀S,(rH r hs).rc S z x:=fun S=>⟨h S,k.all⟩
def Yi(hs:HL)(off sz:Nat):Bool:=hs.all fun p=>Nat.blt p.1 off||Nat.ble (off+sz) p.1
def HOK(hs:HL)(off sz:Nat)(v:Option Value):HL→Prop
 |[]=>True
 |p::l=>((v=some p.2∧p.1=off∧sz=1)∨(Bl hs p.1=some p.2∧(Nat.blt p.1 off||Nat.ble (off+sz) p.1)=true))∧HOK hs off sz v l
variable{sz:Nat}
theorem HOK.all{hs:HL}{v:Option Value}: ∀{l:HL},HOK hs off sz v l→ ∀p∈l,(v=some p.2∧p.1=off∧sz=1)∨(Bl hs p.1=some p.2∧(Nat.blt p.1 off||Nat.ble (off+sz) p.1)=true)
 |_::_,⟨h,_⟩,_,.head _=>h
 |_::_,⟨_,h⟩,_,.tail _ hm=>HOK.all h _ hm
theorem Dg{ds:List Value}{k:Nat}(hl:ds.length=sz)(hoff:off+sz≤cs.length)(h:(Nat.blt k off||Nat.ble (off+sz) k)=true):(cs.take off++ds++cs.drop (off+sz))[k]? =cs[k]? :=by
 simp only [pW,wS,Nat.ble_eq]at h
 have ht:(cs.take off).length=off:=by simp;omega
 rcases h with h|h
 ·rw [xi (by simp;omega),xi (by omega),BZ h]
 ·rw [si (by simp;omega),wU]
  congr 1
  simp only [iI,ht,hl];omega
theorem SB{ds:List Value}(hd:ds=[v])(hoff:off+1≤cs.length):(cs.take off++ds++cs.drop (off+1))[off]? =some v:=by
 subst hd
 have ht:(cs.take off).length=off:=by simp;omega
 rw [xi (by simp;omega),si (by omega),ht,zL]
 rfl
variable{y:Operand}
theorem Wu{hs:HL}{set:α→β→α}(h:jU r off q set)(hk:Yi hs off q.sz=true)(hoff:Nat.ble (off+q.sz) r.sz=true):jU (rH r hs) off q set:=fun S cs x ds y h1 h2=>by
 refine⟨h S cs x ds y h1.1 h2,fun p hp=>?_⟩
 have hl:=r.len h1.1
 rw [Dg (q.len h2) (by have:=pj hoff;omega) (jZ.1 hk p hp)]
 exact h1.2 _ hp
variable{T U:TypeId}{V:MV β}{agg:Bool}{bytes cap:Nat}{dst:Option Tmp}{ops:Array Oper}{rest:List Oper}{xs:List α}{γ:β→Ty}
section
variable{e:Exit}
section
variable{ty:TypeId}
theorem wC{op:Op}{t:OI→Ty}(h:EffOK E O G ⟨none,op,ty,pos,after,none⟩ post t)(k: ∀x,RG E ops Q rest (post x) G):RG E ops Q (⟨none,op,ty,pos,after,none⟩::rest) O G:= .of rfl fun a w S st=>
 oE (fun a' w' ⟨v,S',x,ha,hx,hs,ho,hv⟩=>by
  subst ha
  exact k x _ _ S' ⟨st.ext.step hx fun b ⟨f,hf,hb⟩=>(cJ.mem st.own f hf).2 b hb,hs,ho,st.facts.mono hx.keep⟩) (h a w S st.sat st.own st.facts st.base_le)
theorem oq{γ:Type}{r' :Rp γ}{x:α}{x' :γ}{y:β}{v:Operand}(ti:TI E.P U sz bytes agg z)(hsz:q.sz=sz)(hset:vC r r' off q x y x')(hoff:Nat.ble (off+q.sz) r.sz=true)(hp:aI E.N G p (tV (aN b off)))(hv:aI E.N G v (tD q y)):EffOK E (bx r T b x::O) G ⟨none,.store U p v,ty,pos,after,g⟩ (fun _=>bx r' T b x' ::O) (fun _=>Dq):=Fw (fun _ h=>(by cases h)) fun a w S hs ho hf hb=>by
 have h1:a.eval p=aN b off:=hp S a hf
 obtain⟨ds,h2,h3⟩:=hv S a hf
 obtain⟨⟨hno,cur,h5,h6⟩,_⟩:=ho.1
 have hl:=r.len h6
 have hoff' :=pj hoff
 obtain⟨w',hr,e1,e2,e3,e4,e5,e6⟩:=kS ti hsz h3 h5 (off:=off) (by simp at hl;omega)
 have hrun:(execOp a.eval ⟨none,.store U p v,ty,pos,after,g⟩).run E.P w= .ok .skip w' :=by
  simp [execOp,h1,h2,Instr.storeAt,aN,Instr.sureAddr,hr]
 obtain⟨g1,g2,g3⟩:=qL (O:=O) hs (bx r T b x) (bx r' T b x') ho (fun _=>Iff.rfl) (fun _=>Iff.rfl) ⟨e1,e2,e3,e4.1,e4.2⟩ e6 ⟨hno,_,e5,by simpa using hset S _ _ h6 h3⟩ hno
 exact⟨w',S,pS,hrun,g1.more fun k hk=>⟨_,kO ..,hk⟩,g2,g3⟩
theorem wt{set:α→β→α}{hs hs' :HL}{x:α}{y:β}{v:Operand}(ti:TI E.P U 1 bytes false z)(hsz:q.sz=1)(hag:q.agg=false)(hset:jU r off q set)(hoff:Nat.ble (off+1) r.sz=true)(hk:HOK hs off 1 (some u) hs')(hp:aI E.N G p (tV (aN b off)))(hv:aI E.N G v (tD q y))(hu:aI E.N G v (tV u)):EffOK E (bx (rH r hs) T b x::O) G ⟨none,.store U p v,ty,pos,after,g⟩ (fun _=>bx (rH r hs') T b (set x y)::O) (fun _=>Dq):=Fw (fun _ h=>(by cases h)) fun a w S hsat ho hf hb=>by
 have h1:a.eval p=aN b off:=hp S a hf
 obtain⟨ds,h2,h3⟩:=hv S a hf
 have hu' :a.eval v=u:=hu S a hf
 obtain⟨⟨hno,cur,h5,h6⟩,_⟩:=ho.1
 have hl:=r.len h6.1
 have hoff' :=pj hoff
 have hdl:=q.len h3
 have hds:ds=[u]:=by
  obtain⟨d,hd⟩:=List.length_eq_one_iff.1 (by rw [hdl,hsz]:ds.length=1)
  subst hd
  have e1:q.val [d]=d:=by simp [Rp.val,hag]
  rw [h2,e1]at hu'
  rw [hu']
 obtain⟨w',hr,e1,e2,e3,e4,e5,e6⟩:=kS ti hsz h3 h5 (off:=off) (by simp at hl;omega)
 have hrun:(execOp a.eval ⟨none,.store U p v,ty,pos,after,g⟩).run E.P w= .ok .skip w' :=by
  simp [execOp,h1,h2,Instr.storeAt,aN,Instr.sureAddr,hr]
 rw [hsz]at e5
 have hnew:(rH r hs').rc S (cur.toList.take off++ds++cur.toList.drop (off+1)) (set x y):=by
  have h7:=hset S _ _ _ _ h6.1 h3
  rw [hsz]at h7
  refine⟨h7,fun p hp=>?_⟩
  rcases hk.all p hp with⟨f1,f2,_⟩|⟨f1,f2⟩
  ·rw [f2]
   exact SB (by rw [hds,pR f1]) (by omega)
  ·rw [Dg (by rw [hdl,hsz]) (by omega) f2]
   exact h6.2 _ (yK f1)
 obtain⟨g1,g2,g3⟩:=qL (O:=O) hsat (bx (rH r hs) T b x) (bx (rH r hs') T b (set x y)) ho (fun _=>Iff.rfl) (fun _=>Iff.rfl) ⟨e1,e2,e3,e4.1,e4.2⟩ e6 ⟨hno,_,e5,by simpa using hnew⟩ hno
 exact⟨w',S,pS,hrun,g1.more fun k hk=>⟨_,kO ..,hk⟩,g2,g3⟩
end
section
variable{ty:TypeId}
theorem Rq{hs:HL}{x:α}(ti:TI E.P U 1 bytes false z)(hk:Bl hs off=some u)(hm:bx (rH r hs) T b x∈O)(hp:aI E.N G p (tV (aN b off))):
  bS E O G ⟨dst,.load U p,ty,pos,after,g⟩ (tV u):=(cg (q:=rV) ti rfl rfl (act hk) hm hp).imp fun _ _ h=>(vW.1 h).1
theorem dd{q:Rp α}{r:Rp β}{hs:HL}{x:β}{V:TypeId}{l:Option Nat}(ti:TI E.P U 1 bytes false z)(hk:Bl hs off=some (aR l cap xs.length))(hm:bx (rH r hs) T b x∈O)(hm2:dT q V l cap xs∈O)(hp:aI E.N G p (tV (aN b off))):
  bS E O G ⟨dst,.load U p,ty,pos,after,g⟩ (tO q l cap xs):=fun a w S hs' ho hf=>
 oE (fun _ _ ⟨v,S',h1,h2,h3,h4⟩=>⟨v,S',h1,h2,h3,h4,by
  have h5:v=aR l cap xs.length:=h4
  rw [h5]
  exact p6 (((ho.ext0 h2).mem _ hm2).1)⟩) (Rq (g:=g) (ty:=ty) (pos:=pos) (after:=after) (dst:=dst) ti hk hm hp a w S hs' ho hf)
theorem Ub{t:Ty}(h1: ∀S v,t.p S v→v.oneCell' =true)(hx:aI E.N G x t):bS E O G ⟨dst,.box T x,ty,pos,after,g⟩ (bK (rT t) ()):=
 MK (fun S a hf=>tRT.2 ⟨h1 _ _ (hx S a hf),hx S a hf⟩)
end
def TG:HL→HL→Prop
 |[],_=>True
 |p::l,hs=>Bl hs p.1=some p.2∧TG l hs
theorem TG.all{hs:HL}: ∀{l:HL},TG l hs→ ∀p∈l,p∈hs
 |_::_,⟨h,_⟩,_,.head _=>yK h
 |_::_,⟨_,h⟩,_,.tail _ hm=>TG.all h _ hm
end

variable{O' :List OE}
theorem EffOK.perm{t:OI→Ty}(h:EffOK E O' G o post t)(k: ∀{w S},cJ E.base E.B w S O→cJ E.base E.B w S O')(m: ∀f∈O',f∈O):EffOK E O G o post t:=fun a w S hs ho hf hb=>
 oE (fun _ _ ⟨v,S',x,h1,h2,h3,h4,h5⟩=>⟨v,S',x,h1,h2.more fun _ ⟨f,hf,hk⟩=>⟨f,m f hf,hk⟩,h3,h4,h5⟩) (h a w S hs (k ho) hf hb)
variable{x0 x1 x2 x3 x4:OE}
namespace EffOK
section
variable{t:OI→Ty}
theorem fr1(h:EffOK E (x1::x0::O) G o post t):EffOK E (x0::x1::O) G o post t:=h.perm (fun hw=>cJ.swap hw) (fun f hf=>by simp only [fk]at hf ⊢;rcases hf with h|h|h<;>simp [h])
theorem fr2(h:EffOK E (x2::x0::x1::O) G o post t):EffOK E (x0::x1::x2::O) G o post t:=h.perm (fun hw=>t8 hw) (fun f hf=>by simp only [fk]at hf ⊢;rcases hf with h|h|h|h<;>simp [h])
theorem fr3(h:EffOK E (x3::x0::x1::x2::O) G o post t):EffOK E (x0::x1::x2::x3::O) G o post t:=h.perm (fun hw=>t7 hw) (fun f hf=>by simp only [fk]at hf ⊢;rcases hf with h|h|h|h|h<;>simp [h])
theorem fr4(h:EffOK E (x4::x0::x1::x2::x3::O) G o post t):EffOK E (x0::x1::x2::x3::x4::O) G o post t:=h.perm (fun hw=>t6 hw) (fun f hf=>by simp only [fk]at hf ⊢;rcases hf with h|h|h|h|h|h<;>simp [h])
theorem fr6{x5 x6:OE}(h:EffOK E (x6::x0::x1::x2::x3::x4::x5::O) G o post t):EffOK E (x0::x1::x2::x3::x4::x5::x6::O) G o post t:=h.perm (fun hw=>tZ hw) (fun f hf=>by simp only [fk]at hf ⊢;rcases hf with h|h|h|h|h|h|h|h<;>simp [h])
theorem fr7{x5 x6 x7:OE}(h:EffOK E (x7::x0::x1::x2::x3::x4::x5::x6::O) G o post t):EffOK E (x0::x1::x2::x3::x4::x5::x6::x7::O) G o post t:=h.perm (fun hw=>tY hw) (fun f hf=>by simp only [fk]at hf ⊢;rcases hf with h|h|h|h|h|h|h|h|h<;>simp [h])
theorem post_imp{post' :OI→List OE}(h:EffOK E O G o post t)(k: ∀{w S x},cJ E.base E.B w S (post x)→cJ E.base E.B w S (post' x)):EffOK E O G o post' t:=fun a w S hs ho hf hb=>
 oE (fun _ _ ⟨v,S',x,h1,h2,h3,h4,h5⟩=>⟨v,S',x,h1,h2,h3,k h4,h5⟩) (h a w S hs ho hf hb)
end
end EffOK
variable{ats:Array TypeId}{cells:List Value}{mm:Bool}{ys zs:List α}
section
variable{ty:TypeId}
theorem Nl{y v:α}{i:Int}(ti:TI E.P U sz bytes agg z)(hsz:r.sz=sz)(hy:cN xs i=some y)(hz:xs.set i.toNat v=zs)(hp:aI E.N G p (tV (aN b (i.toNat*r.sz))))(hv:aI E.N G x (tD r v)):EffOK E (bx (tz r n) T b xs::O) G ⟨none,.store U p x,ty,pos,after,g⟩ (fun _=>bx (tz r n) T b zs::O) (fun _=>Dq):=Fw (fun _ h=>(by cases h)) fun a w S hsat hown hf hbase=>by
 subst hz
 have h1:a.eval p=aN b (i.toNat*r.sz):=hp S a hf
 obtain⟨ds,h2,h3⟩:=hv S a hf
 obtain⟨⟨hno,cur,h5,h6⟩,_⟩:=hown.1
 obtain⟨h0,hy'⟩:=lW hy
 have hlt:i.toNat<xs.length:=(jM.1 hy').1
 have hl:=pf h6.2
 simp only [D3]at hl
 have hmul:i.toNat*r.sz+r.sz≤xs.length*r.sz:=by rw [←Nat.succ_mul];exact BY _ hlt
 obtain⟨w',hr,e1,e2,e3,e4,e5,e6⟩:=kS ti hsz h3 h5 (off:=i.toNat*r.sz) (by omega)
 have hrun:(execOp a.eval ⟨none,.store U p x,ty,pos,after,g⟩).run E.P w= .ok .skip w' :=by
  simp [execOp,h1,h2,Instr.storeAt,aN,Instr.sureAddr,hr]
 obtain⟨g1,g2,g3⟩:=qL (O:=O) hsat (bx (tz r n) T b xs) (bx (tz r n) T b (xs.set i.toNat v)) hown (fun _=>Iff.rfl) (fun _=>Iff.rfl) ⟨e1,e2,e3,e4.1,e4.2⟩ e6 ⟨hno,_,e5,by rw [List.length_set];exact h6.1,Io h3 h6.2 hlt⟩ hno
 exact⟨w',S,pS,hrun,g1.more fun c hc=>⟨_,kO ..,hc⟩,g2,g3⟩

section
theorem yO{x:α}(ti:TI E.P T sz bytes agg z)(hx: ∀S,r.rc S z x):
  EffOK E O G ⟨some d,.alloc T,ty,pos,after,g⟩ (fun i=>bx r T (i.h 0).2 x::O) (fun i=>tV (aN (i.h 0).2 0)):=fun a w S hs ho hf hb=>by
 obtain⟨zv,hzr,hzc⟩:=ti.zero w
 obtain⟨he,hs',hno⟩:=fX (w:=w) (.cells z.toArray T (0,0)) hs
 have hrun:(execOp a.eval ⟨some d,.alloc T,ty,pos,after,g⟩).run E.P w= .ok (.value (aN w.heap.size 0)) (w.alloc (.cells z.toArray T (0,0))):=by
  simp [execOp,Instr.alloc,hzr,newVar,newRow,hzc,aN]
 refine⟨fun c h=>(by cases h),?_⟩
 rw [hrun]
 exact⟨_,S,oi none w.heap.size,rfl,he.more fun _ hb=>hb.elim,hs',qd ho he (e:=bx r T w.heap.size x) ⟨hno,z.toArray,xj w _,by simpa using hx S⟩ (fun b hb=>AI hb.symm) hb,rfl⟩
theorem Hn{xs:List Operand}(hc:ak E.P f=true)(hs:fZ E.P f ts false r T ys)(hx:jK E.N G xs ts):
  EffOK E O G ⟨some d,.call ⟨.value (.func f),xs.toArray,ats⟩,ty,pos,after,g⟩ (fun i=>fj r T (i.h 0).1 (i.h 0).2 ys::O) (fun i=>tV (aR (i.h 0).1 (i.h 0).2 ys.length)):=Qk (mm:=false) hc hs hx (fun _ _ _ _ _=>rfl)
end
section
theorem nt{l:Option Nat}{o i:Nat}{y:α}{j:Int}(hf:cR E.P T i=some (off,sz))(h0:Nat.beq sz 0=false)(hm:mj mm r U l cap xs∈O)(hy:cN xs j=some y)(hp:aI E.N G p (tV (pU l o)))(he:o+off=n):
  bS E O G ⟨dst,.fieldAddr T p i,ty,pos,after,g⟩ (tV (pU l n)):=by
 subst he
 exact Gn hf h0 hm hy hp
theorem dB(hx:aI E.N G x (tV (aN b off))):bS E O G ⟨dst,.nilCheck x,ty,pos,after,g⟩ (tV (aN b off)):= .of_pure fun a w S _ _ hf=>by
 have h1:a.eval x=aN b off:=hx S a hf
 exact⟨aN b off,by simp [execOp,h1,aN],rfl⟩
theorem Iw{y:α}(hx:aI E.N G x (bK r y)):bS E O G ⟨dst,.nilCheck x,ty,pos,after,g⟩ (bK r y):= .of_pure fun a w S _ _ hf=>by
 have h0:=hx S a hf
 obtain⟨b,off,c,U,fr,h1,h2,h3⟩:=h0
 exact⟨_,by simp [execOp,h1],b,off,c,U,fr,rfl,h2,h3⟩
theorem tA(ti:TI E.P U 1 bytes false z)(hm:bx rV T b u∈O)(hp:aI E.N G p (tV (aN b 0))):
  bS E O G ⟨dst,.load U p,ty,pos,after,g⟩ (tV u):=(cg (q:=rV) (get:=fun x=>x) ti rfl rfl bT hm hp).imp fun _ _ h=>(vW.1 h).1
theorem li{t:Ty}(ti:TI E.P U 1 bytes false z)(hp:aI E.N G p (bK (rT t) ())):bS E O G ⟨dst,.load U p,ty,pos,after,g⟩ t:=vn ti hp
end
theorem FN(h:O=O')(k:RG E ops Q rest O' G):RG E ops Q rest O G:=by subst h;exact k
theorem Ti{e:Exit}(h:O=O')(k:AT E Q e O' G):AT E Q e O G:=by subst h;exact k
theorem hW{N:Fr}(h:aI N G x (tV u))(ho:u.oneCell' =true):aI N G x (tD rV u):=fun S a hf=>vW.2 ⟨h S a hf,ho⟩
theorem hTT{N:Fr}{t:Ty}(h1: ∀S v,t.p S v→v.oneCell' =true)(h:aI N G x t):aI N G x (tD (rT t) ()):=fun S a hf=>tRT.2 ⟨h1 _ _ (h S a hf),h S a hf⟩
end

variable{P:Program}
theorem JL{l:Option Nat}{t' e' :TypeId}(ht:P.underlying t' =some (.slice e'))(h:Cz mm r U l cap xs w S)(hs:dA xs lo (xs.length:Int)=some ys):
  ∃news,Src P r.sz t' (oP r.sz l cap lo.toNat ys.length) ys.length news w∧uT r S news ys:=by
 obtain⟨cells,h1,h2,_⟩:=h
 obtain⟨lo',m,rfl,hm,h3,h4,rfl⟩:=gV hs
 have hm' :m=xs.length:=by omega
 subst hm'
 rw [xm,AE]
 cases l with
 |none=>
  have hx:xs=[]:=uf h1.1
  subst hx
  exact⟨[],by simpa [oP] using Src.ofNil w ht 0,by simp [uT]⟩
 |some b=>
  obtain⟨cur,g1,g2,g3,g4,g5⟩:=h1
  have hlen:(xs.drop lo').length=xs.length-lo' :=by simp
  have hcl:=pf h2
  have hsp:xs=xs.take lo' ++xs.drop lo' :=(vR lo' xs).symm
  have htl:(xs.take lo').length=lo' :=by simp;omega
  have hr:uT r S (cells.drop (lo' *r.sz)) (xs.drop lo'):=by
   rw [hsp]at h2
   have:=(qK h2).2
   rwa [htl]at this
  have hmul:lo' *r.sz≤xs.length*r.sz:=BY _ h3
  refine⟨cells.drop (lo' *r.sz),?_,hr⟩
  unfold oP
  refine Src.ofSlice w ht _ _ _ _ (pf hr) (fun j u hu=>?_) (DA hr)
  by_cases hc:cap=lo'
  ·have:xs.drop lo' =[]:=DY (by omega)
   rw [this]at hr
   have hr' :cells.drop (lo' *r.sz)=[]:=hr
   rw [hr']at hu;simp at hu
  ·simp only [hc,d7]
   rw [jT,BJ g1]
   rw [wU,←g5]at hu
   have hj:lo' *r.sz+j<xs.length*r.sz:=by
    have:=(jM.1 hu).1
    simp at this;omega
   rw [BZ hj]at hu
   simpa using hu
section
variable{ty:TypeId}
theorem Hw{l:Option Nat}{yt:TypeId}(ht:E.P.underlying t=some (.slice e))(hm:mj mm r U l cap xs∈O)(hs:dA xs lo (xs.length:Int)=some ys)(hx:aI E.N G x (tV (oP r.sz l cap lo.toNat ys.length)))(hd:Nat.blt d E.N.n=true)(k: ∀b,(b=true→ys=[])→RG E ops Q rest O ((d,tD rB b)::G)):RG E ops Q (⟨some d,.binOp .eql t x (.const (.slice none 0 0)) yt,ty,pos,after,none⟩::rest) O G:= .of rfl fun a w S st=>by
 have h1:a.eval x=oP r.sz l cap lo.toNat ys.length:=hx S a st.facts
 obtain⟨⟨cells,hraw,_⟩,_⟩:=st.own.mem _ hm
 have hcn:a.eval (.const (.slice none 0 0))= .slice none 0 0:=rfl
 cases l with
 |none=>
  have hx0:xs=[]:=uf hraw.1
  have hy0:ys=[]:=by
   obtain⟨lo',m,_,_,_,_,rfl⟩:=gV hs
   subst hx0;simp
  have h3:(Op.equal t (.slice none 0 0) (.slice none 0 0)).run E.P w= .ok true w:=A2 fun d=>by
   simp [Op.equalIn,lG ht]
  have hrun:(execOp a.eval ⟨some d,.binOp .eql t x (.const (.slice none 0 0)) yt,ty,pos,after,none⟩).run E.P w= .ok (.value (.bool true)) w:=by
   simp [execOp,h1,oP,hcn,eqGuard,binOp,h3]
  refine⟨fun c h=>(by cases h),?_⟩
  rw [hrun]
  exact k true (fun _=>hy0) _ _ S (st.step (fY.refl _ _ _) st.sat hd (iO.2 rfl))
 |some b=>
  obtain⟨ad,hv⟩: ∃ad,oP r.sz (some b) cap lo.toNat ys.length= .slice (some ad) ys.length (cap-lo.toNat):=⟨_,rfl⟩
  have h3:(Op.equal t (.slice (some ad) ys.length (cap-lo.toNat)) (.slice none 0 0)).run E.P w= .ok false w:=A2 fun d=>by
   simp [Op.equalIn,lG ht]
  have hrun:(execOp a.eval ⟨some d,.binOp .eql t x (.const (.slice none 0 0)) yt,ty,pos,after,none⟩).run E.P w= .ok (.value (.bool false)) w:=by
   simp [execOp,h1,hv,hcn,eqGuard,binOp,h3]
  refine⟨fun c h=>(by cases h),?_⟩
  rw [hrun]
  exact k false (fun e=>(by cases e)) _ _ S (st.step (fY.refl _ _ _) st.sat hd (iO.2 rfl))
theorem FO{t' :TypeId}{l l2:Option Nat}{cap2:Nat}{us:List α}(ti:TI E.P T sz bytes agg z)(hsz:r.sz=sz)(hz:Nat.beq z.length sz=true)(h0:Nat.blt 0 sz=true)(h128:Nat.ble bytes 2048=true)(ht:E.P.underlying t=some (.slice T))(ht' :t' =t)(hd:Nat.blt d E.N.n=true)(hx:aI E.N G x (tV (aR l cap n)))(hm:mj mm r U l2 cap2 us∈fj r T l cap xs::O)(hs:dA us lo (us.length:Int)=some ys)(hy:aI E.N G y (tV (oP r.sz l2 cap2 lo.toNat ys.length)))(happ:app xs ys=some zs)(k: ∀l' cap',RG E ops Q rest (fj r T l' cap' zs::O) ((d,tV (aR l' cap' zs.length))::G))(hn:n=xs.length:=by rfl):
  RG E ops Q (⟨some d,.call ⟨.builtin .append,#[x,y],#[t,t']⟩,ty,pos,after,none⟩::rest) (fj r T l cap xs::O) G:=by
 subst ht'
 exact At (u:=fun cap' l' =>tV (aR l' cap' zs.length)) ti hsz hz h0 h128 ht hd hx (fun a w S st=>by
  have h1:a.eval y=oP r.sz l2 cap2 lo.toNat ys.length:=hy S a st.facts
  rw [h1]
  exact JL ht (st.own.mem _ hm).1 hs) happ (fun _ _ _ _ _=>rfl) k hn
end

abbrev Pr(α X:Type):=(σ:Type)→(α→σ→Option (Bool×σ))→σ→Option (σ×X)
def Ps(P:Program){α X:Type}(args:α→List Ty)(it:Pr α X)(Ob:X→OI→List OE)(fid:FuncId)(cap:Array Value)(fp:Nat→Prop)(w:World)(S:SH):Prop:=
 ∀(σ:Type) (y:α→σ→Option (Bool×σ)) (s:σ) (R:σ×X),it σ y s=some R→ ∀I yv,Zc P args y I yv→ ∀e,I s e→e.p w S→(∀k,e.fp k→ ¬fp k)→
  Calls P fid (#[yv]++cap) w fun en w' => ∃e' S' j,(∃v,en= .returned v)∧I R.1 e' ∧fY (fun k=>e.fp k∨fp k) w S w' S' ∧jy w' S' ∧e'.p w' S' ∧cJ 0 pT w' S' (Ob R.2 j)∧(∀k,e'.fp k∨Af (Ob R.2 j) k→(e.fp k∨fp k)∨w.heap.size≤k)∧ ∀k,e'.fp k→ ¬Af (Ob R.2 j) k
def IE(P:Program){α X:Type}(args:α→List Ty)(it:Pr α X)(Ob:X→OI→List OE)(v:Value)(fp:Nat→Prop):OE where
 fp:=fp
 p:=fun w S=>(∀k,fp k→k<w.heap.size)∧ ∃fid cap,v= .func (.func fid) #[] cap∧ak P fid=true∧
  ∀C w' S',fY C w S w' S' →(∀k,fp k→ ¬C k)→jy w' S' →Ps P args it Ob fid cap fp w' S'
 here:=fun h k hk=>h.1 k hk
 kept:=by
  rintro C w w' S S' ⟨h1,fid,cap,h2,h3,h4⟩ k hC
  refine⟨fun b hb=>xh (h1 b hb) k.size,fid,cap,h2,h3,fun C' w'' S'' k' hC' hs=>?_⟩;exact h4 (fun b=>C b∨C' b) w'' S'' ((k.more fun b hb=> .inl hb).trans (k'.more fun b hb=> .inr hb)) (fun b hb h=>h.elim (hC b hb) (hC' b hb)) hs
def ZP:Unit→OI→List OE:=fun _ _=>[]
def itU{α:Type}(it:It α):Pr α Unit:=fun σ y s=>(it σ y s).map fun r=>(r,())
variable{args:α→List Ty}{fp:Nat→Prop}
theorem ZX{it:It α}(h:(WF P args it v fp).p w S):(IE P args (itU it) ZP v fp).p w S:=by
 obtain⟨h1,fid,cap,h2,h3,h4⟩:=h
 refine⟨h1,fid,cap,h2,h3,fun C w' S' k hC hs σ y s R hit I yv hy e he hep hap=>?_⟩
 unfold itU at hit
 cases hq:it σ y s with
 |none=>rw [hq]at hit;cases hit
 |some s' =>
  rw [hq]at hit
  obtain rfl:(s',())=R:=by simpa using hit
  refine(h4 C w' S' k hC hs σ y s s' hq I yv hy e he hep hap).mono ?_
  rintro en w2 ⟨e',S2,g1,g2,g3,g4,g5,g6⟩
  exact⟨e',S2,pS,g1,g2,g3,g4,g5,trivial,fun k hk=>hk.elim (fun h=>(g6 k h).imp .inl id) (fun⟨_,h,_⟩=>by cases h),fun k _ ⟨_,h,_⟩=>by cases h⟩
section
variable{it:It α}
theorem Zg(h:CG E Q c (IE P args (itU it) ZP v fp::O) G):CG E Q c (WF P args it v fp::O) G:=fun a w S st=>h a w S (st.own_map fun⟨⟨g1,g2⟩,g3,g4⟩=>⟨⟨ZX g1,g2⟩,g3,g4⟩)
end

def BR(P:Program)(fid:FuncId){α X:Type}(args:α→List Ty)(it:Pr α X)(Ob:X→OI→List OE)(O:List OE)(cts:List Ty):Prop:=
 ∀w S cap,jy w S→cJ 0 pT w S O→w9 S cts cap→Ps P args it Ob fid cap.toArray (Af O) w S
def Sr(E:En){σ X:Type}(I:σ→OE→Prop)(R:σ×X)(Ob:X→OI→List OE):Ending→World→Prop:=fun en w' => ∃e' S' j,(∃v,en= .returned v)∧I R.1 e' ∧fY E.B E.w0 E.S0 w' S' ∧jy w' S' ∧e'.p w' S' ∧cJ 0 pT w' S' (Ob R.2 j)∧(∀k,e'.fp k∨Af (Ob R.2 j) k→E.B k∨E.w0.heap.size≤k)∧ ∀k,e'.fp k→ ¬Af (Ob R.2 j) k
variable{B:Nat→Prop}{X:Type}{Ob:X→OI→List OE}{S0:SH}{fn:Func}{w0:World}
theorem BR.of{it:Pr α X}{cts:List Ty}(hf:P.funcs[f]? =some fn)(hb:fn.body=some c)(hN:fn.ntmps=N)(hn:Nat.ble (cts.length+1) N=true)(h: ∀(σ:Type) (y:α→σ→Option (Bool×σ)) (s:σ) (R:σ×X),it σ y s=some R→ ∀I yv,Zc P args y I yv→ ∀e,I s e→ ∀w0 S0 B,(∀k,B k→e.fp k∨ ∃f∈O,f.fp k)→
   CG ⟨P,⟨N,[]⟩,B,w0,S0,none⟩ (bodyPost P fn (Sr ⟨P,⟨N,[]⟩,B,w0,S0,none⟩ I R Ob)) c (e::O) (tH 0 (tV yv::cts))):BR P f args it Ob O cts:=by
 subst hN
 intro w S cap hs ho hc σ y s R hit I yv hy e he hep hap
 have hown:cJ w.heap.size (fun k=>e.fp k∨ ∃f∈O,f.fp k) w S (e::O):=
  ⟨⟨hep,fun k hk=> .inr (.inl hk)⟩,fun f hf b hb hfb=>hap b hb ⟨f,hf,hfb⟩,ku ho fun f hf k hk=> .inr (.inr ⟨f,hf,hk⟩)⟩
 have hfacts:=mT (S:=S) (ts:=tV yv::cts) (vs:=yv::cap) ⟨rfl,hc⟩ fn.ntmps (by simpa using pj hn)
 have:=jJ.1 (DZ (F:=fw none) (n:=0) hf hb trivial (h σ y s R hit I yv hy e he w S (fun k=>e.fp k∨ ∃f∈O,f.fp k) (fun _ h=>h) _ w S ⟨fY.refl _ _ _,hs,hown,hfacts⟩))
 rw [show(#[yv]++cap.toArray:Array Value)=(yv::cap).toArray from by simp]
 exact this.mono fun en w' ⟨e',S',j,h1,h2,h3,h4,h5,h6,h7,h8⟩=>⟨e',S',j,h1,h2,h3,h4,h5,h6,h7,h8⟩
theorem LO{σ:Type}{I:σ→OE→Prop}{R:σ×X}{e:OE}(hr:fn.results= #[])(he:I R.1 e)(j:OI)(hO:O=Ob R.2 j):
  AT ⟨P,⟨N,[]⟩,B,w0,S0,none⟩ (bodyPost P fn (Sr ⟨P,⟨N,[]⟩,B,w0,S0,none⟩ I R Ob)) .ret (e::O) G:=fun _ _ S st=>by
 subst hO
 refine⟨st.facts.defers,_,vg P fn hr _ _,e,S,j,⟨_,rfl⟩,he,st.ext,st.sat,st.own.1.1,st.own.2.2.weak,fun k hk=>?_,fun k hk ⟨f,hf,hfk⟩=>st.own.2.1 f hf k hk hfk⟩
 rcases hk with hk|⟨f,hf,hk⟩
 ·exact(st.own.1.2 k hk).symm
 ·exact((cJ.mem st.own.2.2 f hf).2 k hk).symm
theorem QG{σ:Type}{I:σ→OE→Prop}{R:σ×X}{e:OE}(hr:fn.results= #[])(he:I R.1 e)(j:OI)(hO:O=Ob R.2 j):
  AT ⟨P,⟨N,[]⟩,B,w0,S0,none⟩ (bodyPost P fn (Sr ⟨P,⟨N,[]⟩,B,w0,S0,none⟩ I R Ob)) .normal (e::O) G:=fun a w S st=>LO hr he j hO a w S st
def BL(P:Program)(f:FuncId)(ts:List Ty)(O1:List OE){α X:Type}(args:α→List Ty)(it:Pr α X)(Ob:X→OI→List OE):Prop:=
 ∀w S vs,jy w S→w9 S ts vs→cJ 0 pT w S O1→Calls P f vs.toArray w fun e w' => ∃v fp S',e= .returned v∧fY (Af O1) w S w' S' ∧jy w' S' ∧(IE P args it Ob v fp).p w' S' ∧ ∀k,fp k→Af O1 k∨w.heap.size≤k
def Sq(E:En)(O1:List OE){α X:Type}(args:α→List Ty)(it:Pr α X)(Ob:X→OI→List OE):Ending→World→Prop:=fun e w' => ∃v fp S',e= .returned v∧fY E.B E.w0 E.S0 w' S' ∧jy w' S' ∧(IE E.P args it Ob v fp).p w' S' ∧ ∀k,fp k→Af O1 k∨E.w0.heap.size≤k
variable{O1:List OE}
theorem BL.of{it:Pr α X}(hf:P.funcs[f]? =some fn)(hb:fn.body=some c)(hN:fn.ntmps=N)(hn:Nat.ble ts.length N=true)(h: ∀w0 S0,CG ⟨P,⟨N,[]⟩,Af O1,w0,S0,none⟩ (bodyPost P fn (Sq ⟨P,⟨N,[]⟩,Af O1,w0,S0,none⟩ O1 args it Ob)) c O1 (tH 0 ts)):BL P f ts O1 args it Ob:=by
 subst hN
 intro w S vs hs hv ho
 exact jJ.1 (DZ (F:=fw none) (n:=0) hf hb trivial (h w S _ w S ⟨fY.refl _ _ _,hs,ku ho fun f hf k hk=> .inr ⟨f,hf,hk⟩,mT hv _ (pj hn)⟩))
theorem QF{k:Nat}{it:Pr α X}(hr:fn.results= #[.tmp k])(hk:de G k=some (tV v)):
  AT ⟨P,⟨N,[]⟩,Af O1,w0,S0,none⟩ (bodyPost P fn (Sq ⟨P,⟨N,[]⟩,Af O1,w0,S0,none⟩ O1 args it Ob)) .ret (IE P args it Ob v fp::O) G:=fun a w S st=>by
 have hv:a.tmps.getD k undef=v:=st.facts.at_ k _ hk
 exact⟨st.facts.defers,_,m9 P fn k hr _ _,v,fp,S,by rw [hv],st.ext,st.sat,st.own.1.1,fun k hk=>(st.own.1.2 k hk).symm⟩
variable{ι:Type}{O2:ι→List OE}
section
variable{ty:TypeId}
theorem Ny{xs:List Operand}(O1 Or:List OE){it:Pr α X}(hO:O=O1++Or)(hc:ak E.P f=true)(hs:BL E.P f ts O1 args it Ob)(hx:jK E.N G xs ts)(hd:Nat.blt d E.N.n=true)(k: ∀v fp,RG E ops Q rest (IE E.P args it Ob v fp::Or) ((d,tV v)::G)):
  RG E ops Q (⟨some d,.call ⟨.value (.func f),xs.toArray,ats⟩,ty,pos,after,none⟩::rest) O G:= .of rfl fun a w S st=>by
 subst hO
 have hr:(execOp a.eval ⟨some d,.call ⟨.value (.func f),xs.toArray,ats⟩,ty,pos,after,none⟩).run E.P w= .ok (.enter f (xs.map a.eval).toArray) w:=by
  simp [execOp,resolve,Act.eval,Deferred.ofValue,invoke,ed hc]
 refine⟨fun c h=>(by cases h),?_⟩
 rw [hr]
 refine(hs w S _ st.sat (hx.tys st.facts) (nF st.own).1.weak).mono fun e w' ⟨v,fp,S',he,h1,h2,h3,h4⟩=>⟨_,he,?_⟩
 have st' :=st.turn (O2:=[IE E.P args it Ob v fp]) h1 h2 ⟨⟨h3,fun _ _=> .inl (lF _)⟩,fun _ h=>(by cases h),trivial⟩ (fun k ⟨f,hf,hk⟩=>by
  rw [zN.1 hf]at hk;exact h4 k hk)
 exact k v fp _ _ S' (st'.put hd rfl)
theorem Ji{fid:FuncId}{O2:List OE}{it:Pr α X}{cts:List Ty}{caps:List Operand}(hO:O=O1++O2)(hc:ak E.P fid=true)(hs:BR E.P fid args it Ob O1 cts)(hcap:jK E.N G caps cts)(hd:Nat.blt d E.N.n=true)(k: ∀v fp,RG E ops Q rest (IE E.P args it Ob v fp::O2) ((d,tV v)::G)):
  RG E ops Q (⟨some d,.makeFunc (.func fid) #[] caps.toArray,ty,pos,after,none⟩::rest) O G:= .of rfl fun a w S st=>by
 subst hO
 have hr:(execOp a.eval ⟨some d,.makeFunc (.func fid) #[] caps.toArray,ty,pos,after,none⟩).run E.P w= .ok (.value (.func (.func fid) #[] (caps.map a.eval).toArray)) w:=by simp [execOp,Instr.makeFunc]
 refine⟨fun c h=>(by cases h),?_⟩
 rw [hr]
 obtain⟨h1,h2,h3⟩:=nF st.own
 have hcv:=hcap.tys st.facts
 refine k (.func (.func fid) #[] (caps.map a.eval).toArray) (Af O1) _ _ S ⟨st.ext,st.sat,?_,st.facts.put hd rfl⟩;refine cJ.cons ⟨⟨fun b ⟨f,hf,hb⟩=>f.here (cJ.mem h1 f hf).1 b hb,fid,_,rfl,hc,fun C w' S' he hC hs' =>?_⟩,fun b ⟨f,hf,hb⟩=>(cJ.mem h1 f hf).2 b hb⟩ (fun f hf b ⟨g,hg,hb⟩=>h3 g hg f hf b hb) h2;exact hs w' S' _ hs' (h1.weak.ext he fun f hf b hb=>hC b ⟨f,hf,hb⟩) (hcv.mono he.keep)
end

def rC(l:Nat)(r:Loop)(st:LoopState)(pd:Option Code):OE where
 fp:=fun k=>k=l
 p:=fun w S=>S l=none∧w.heap[l]? =some (.loop {r with state:=st,pending:=pd})
 here:=by
  intro w S h k hk
  subst hk
  exact(vT.1 h.2).1
 kept:=by
  intro C w w' S S' h k hC
  have hlt:=(vT.1 h.2).1
  exact⟨by rw [k.old l hlt (hC l rfl)];exact h.1,by rw [k.heap l hlt (hC l rfl)];exact h.2⟩
def Wt(j:Option Nat):LoopState:=if j.isNone then .ready else .done
def TR(E:En)(l:Nat)(rec:Loop){σ ι:Type}(Oi:ι→List OE)(dat:ι→σ)(jc:Nat→Code)(r:Option Nat×σ):Ending→World→Prop:=fun en w' =>
 ∃i S',en= .returned (.bool r.1.isNone)∧dat i=r.2∧fY E.B E.w0 E.S0 w' S' ∧jy w' S' ∧cJ E.base E.B w' S' (rC l rec (Wt r.1) (r.1.map jc)::Oi i)
def wP{α σ:Type}(f:α→σ→Option (Option Nat×σ)):α→Option Nat×σ→Option (Bool×(Option Nat×σ)):=fun x s=>
 match s.1 with
 |some _=>none
 |none=>(f x s.2).map fun r=>(r.1.isNone,r)
variable{base:Nat}{rec:Loop}
section
theorem Bd{l:Nat}{st st' :LoopState}{pd pd' :Option Code}{O:List OE}(h:cJ base B w S (rC l rec st pd::O))(hs:jy w S):
  fY (fun k=>k=l) w S (w.putObj l (.loop {rec with state:=st',pending:=pd' })) S∧jy (w.putObj l (.loop {rec with state:=st',pending:=pd' })) S∧cJ base B (w.putObj l (.loop {rec with state:=st',pending:=pd' })) S (rC l rec st' pd' ::O):=by
 obtain⟨hno,hl⟩:=h.1.1
 have hlt:=(vT.1 hl).1
 have hext:fY (fun k=>k=l) w S (w.putObj l (.loop {rec with state:=st',pending:=pd' })) S:=⟨rfl,rfl,rfl,dy _,by simp,fun k _ hk=>World.putObj_heap_other hk,SH.le_refl _,fun _ _ _=>rfl⟩
 refine⟨hext,hs.same fun k o hk=>?_,⟨⟨hno,World.putObj_heap_same hlt⟩,h.1.2⟩,h.2.1,h.2.2.ext hext fun g hg k hk hkl=>h.2.1 g hg k hkl hk⟩
 have hne:k≠l:=fun e=>by subst e;rw [hno]at hk;cases hk
 exact World.putObj_heap_other hne
theorem HM{l:Nat}{body:Code}{R:Ending→World→Prop}(h:CG E (roundPost E.P l R) body (rC l rec .busy none::O) G):AT E (V9 E l body R) .normal (rC l rec .ready none::O) G:=fun a w S st=>by
 obtain⟨h1,h2,h3⟩:=Bd (st' := .busy) (pd' :=none) st.own st.sat
 obtain⟨_,hl⟩:=st.own.1.1
 exact⟨_,run_beginRound hl rfl,h a _ S ⟨st.ext.step h1 (fun c hc=>st.own.1.2 c hc),h2,h3,st.facts⟩⟩
theorem wG{l:Nat}{σ:Type}{Oi:ι→List OE}{dat:ι→σ}{jc:Nat→Code}{s2:σ}(i:ι)(hi:dat i=s2)(hO:O=Oi i):AT E (roundPost E.P l (TR E l rec Oi dat jc (none,s2))) .normal (rC l rec .busy none::O) G:=fun a w S st=>by
 subst hO
 obtain⟨h1,h2,h3⟩:=Bd (st' := .ready) (pd' :=none) st.own st.sat
 obtain⟨_,hl⟩:=st.own.1.1
 exact⟨_,_,run_endRound none hl,i,S,rfl,hi,st.ext.step h1 (fun c hc=>st.own.1.2 c hc),h2,h3⟩
theorem BT{l:Nat}{σ:Type}{Oi:ι→List OE}{dat:ι→σ}{jc:Nat→Code}{s2:σ}(q:Nat)(hq:jc q= .ret)(i:ι)(hi:dat i=s2)(hO:O=Oi i):AT E (roundPost E.P l (TR E l rec Oi dat jc (some q,s2))) .ret (rC l rec .busy none::O) G:=fun a w S st=>by
 subst hO
 obtain⟨h1,h2,h3⟩:=Bd (st' := .done) (pd' :=some .ret) st.own st.sat
 obtain⟨_,hl⟩:=st.own.1.1
 exact⟨_,_,run_endRound (some .ret) hl,i,S,rfl,hi,st.ext.step h1 (fun c hc=>st.own.1.2 c hc),h2,by rw [Option.map_some,hq];exact h3⟩
theorem HF{it:Pr α X}{σ:Type}(Oi:ι→List OE)(dat:ι→σ)(jc:Nat→Code){f:α→σ→Option (Option Nat×σ)}{R:(Option Nat×σ)×X}{g:Operand}{ps:List Nat}{assign body:Code}(hr:E.r=none)(hg:aI E.N G g (tV v))(i0:ι)(hO:O=IE E.P args it Ob v fp::Oi i0)(hit:it (Option Nat×σ) (wP f) (none,dat i0)=some R)(hps: ∀x,ps.length=(args x).length)(hpn:(ps.all fun d=>Nat.blt d E.N.n)=true)(hbody: ∀(i:ι) (x:α) (r:Option Nat×σ),f x (dat i)=some r→ ∀(l:Nat) (rec:Loop) (w1:World) (S1:SH) (B1:Nat→Prop),
   CG ⟨E.P,⟨E.N.n,[]⟩,B1,w1,S1,some l⟩ (V9 ⟨E.P,⟨E.N.n,[]⟩,B1,w1,S1,some l⟩ l body (TR ⟨E.P,⟨E.N.n,[]⟩,B1,w1,S1,some l⟩ l rec Oi dat jc r)) assign (rC l rec .ready none::Oi i) (G3 ps (args x) G))(k: ∀i' j,dat i' =R.1.2→ ∀b,(R.1.1=none→AT ⟨E.P,⟨E.N.n,xO b::E.N.ds⟩,E.B,E.w0,E.S0,E.r⟩ Q .normal (BC b::(Ob R.2 j++Oi i')) G)∧
   (∀q,R.1.1=some q→CG ⟨E.P,⟨E.N.n,xO b::E.N.ds⟩,E.B,E.w0,E.S0,E.r⟩ Q (jc q) (BC b::(Ob R.2 j++Oi i')) G)):CG E Q (.rangeFunc g ps.toArray assign body) O G:=fun a w S st=>by
 subst hO
 refine wpIn_rangeFunc fun fn _=>?_
 have hr0:(fw E.r).round=none:=hr
 have hfw:fw E.r=fw none:=by rw [hr]
 rw [hr0]
 obtain⟨rec,hrec⟩: ∃rec:Loop,rec={state:= .ready,pending:=none,fn,tmps:=a.tmps,params:=ps.toArray,assign,body,defers:=w.heap.size}:=⟨_,rfl⟩
 obtain⟨x1,x2,x3⟩:=fX (w:=w) (.deferred (some [])) st.sat
 obtain⟨y1,y2,y3⟩:=fX (w:=w.alloc (.deferred (some []))) (.loop rec) x2
 obtain⟨W1,hW1⟩: ∃W1,(w.alloc (.deferred (some []))).alloc (.loop rec)=W1:=⟨_,rfl⟩
 rw [hW1]at y1 y2
 have hsz:(w.alloc (.deferred (some []))).heap.size=w.heap.size+1:=by simp
 rw [hsz]at y3
 have hext:fY pT w S W1 S:=x1.trans y1
 have hL1:W1.heap[w.heap.size+1]? =some (.loop rec):=by
  rw [←hW1];have:=World.alloc_heap_new (w.alloc (.deferred (some []))) (.loop rec);rwa [hsz]at this
 have hK1:W1.heap[w.heap.size]? =some (.deferred (some [])):=by
  rw [y1.heap w.heap.size (by omega) (fun h=>h)];exact World.alloc_heap_new w _
 have hW1s:W1.heap.size=w.heap.size+2:=by rw [←hW1];simp
 have hg' :a.eval g=v:=hg S a st.facts
 obtain⟨hit1,hap,hoi⟩:=st.own
 obtain⟨⟨hfp,gf,cap,hv,hcal,hcall⟩,hbase⟩:=hit1
 have hbl:=st.base_le
 have hoi1:cJ E.base E.B W1 S (Oi i0):=hoi.ext0 hext
 have hlt: ∀f∈Oi i0,∀k,f.fp k→k<w.heap.size:=fun f hf k hk=>f.here (cJ.mem hoi f hf).1 k hk
 refine⟨w.heap.size+1,[xO w.heap.size],W1,{target:= .fn (.func gf) cap,args:= #[.func (.yield (w.heap.size+1)) #[] #[]]},W1,gf,
  #[.func (.yield (w.heap.size+1)) #[] #[]]++cap,W1,?_,?_,fun _ _=>trivial,?_,fun h=>(by cases h),?_⟩
 ·rw [←hW1,hrec];exact run_enterLoop_outer _ _ _ _ _
 ·simp only [resolve,hg',hv]
  simp [go_sem]
 ·simp [invoke,go_sem,ed hcal]
 rw [hfw]
 refine jJ.2 ?_
 have hyld:Zc E.P args (wP f) (fun s e=> ∃i,dat i=s.2∧e=qA S (rC (w.heap.size+1) rec (Wt s.1) (s.1.map jc)::Oi i)) (.func (.yield (w.heap.size+1)) #[] #[]):=by
  refine⟨_,rfl,?_⟩
  rintro x ⟨j0,s⟩ r hy e ⟨i,hi,rfl⟩ w2 S2 vs hs2 ⟨hle,hown⟩ hvs
  cases j0 with
  |some q=>unfold wP at hy;cases hy
  |none=>
  have hi' :dat i=s:=hi
  subst hi'
  obtain⟨r2,hs2',rfl⟩: ∃r2,f x (dat i)=some r2∧r=(r2.1.isNone,r2):=by
   unfold wP at hy
   cases hf:f x (dat i)with
   |none=>simp only [hf]at hy;cases hy
   |some s2=>simp only [hf]at hy;exact⟨s2,rfl,by simpa using hy.symm⟩
  have hl2:=hown.1.1.2
  have hvl:=hvs.length
  have hyr:=run_yield (P:=E.P) (args:=vs.toArray) hl2 (by rw [hrec];simp [hps x,hvl])
  refine⟨_,_,_,_,hyr,roundIn_of_wpIn trivial ?_⟩
  have hown' :cJ 0 pT w2 S2 (rC (w.heap.size+1) rec .ready none::Oi i):=hown
  have:=hbody i x r2 hs2' (w.heap.size+1) rec w2 S2 (fun k=> ∃f∈rC (w.heap.size+1) rec .ready none::Oi i,f.fp k)
   {tmps:=(ps.zip vs).foldl (fun t (p:Nat×Value)=>t.setIfInBounds p.1 p.2) a.tmps,defers:=[]} w2 S2
   ⟨fY.refl _ _ _,hs2,ku hown' fun f hf k hk=> .inr ⟨f,hf,hk⟩,Ak ps (args x) vs ⟨a.tmps,[]⟩ G (hps x) hvs hpn ⟨st.facts.size,rfl,fun j t h=>t.mono hle (st.facts.at_ j t h)⟩⟩
  rw [hrec]
  rw [hrec]at this
  rw [wM]
  refine wpIn_mono this ?_
  intro e a3 w3 hp
  cases e with
  |normal=>
   obtain⟨w4,hb4,hp4⟩:=hp
   refine⟨w4,hb4,wpIn_mono hp4 ?_⟩
   have hR: ∀en w',TR ⟨E.P,⟨E.N.n,[]⟩,fun k=> ∃f∈rC (w.heap.size+1) rec .ready none::Oi i,f.fp k,w2,S2,some (w.heap.size+1)⟩ (w.heap.size+1) rec Oi dat jc r2 en w' →
     ∃e' S',en= .returned (.bool r2.1.isNone)∧(∃i',dat i' =r2.2∧e' =qA S (rC (w.heap.size+1) rec (Wt r2.1) (r2.1.map jc)::Oi i'))∧fY (qA S (rC (w.heap.size+1) rec .ready none::Oi i)).fp w2 S2 w' S' ∧jy w' S' ∧e'.p w' S' ∧ ∀k,e'.fp k→(qA S (rC (w.heap.size+1) rec .ready none::Oi i)).fp k∨w2.heap.size≤k:=by
    rintro en w' ⟨i',S',h1,h2,h3,h4,h5⟩
    exact⟨_,S',h1,⟨i',h2,rfl⟩,h3,h4,⟨SH.le_trans hle h3.keep,h5.weak⟩,fun k ⟨f,hf,hk⟩=>((cJ.mem h5 f hf).2 k hk).symm⟩
   rw [hrec]at hR
   intro e5 a5 w5 hp5
   cases e5<;>simp only [roundPost]at hp5 ⊢
   case normal=>obtain⟨v5,w6,h1,h2⟩:=hp5;exact⟨v5,w6,h1,hR _ _ h2⟩
   case ret=>obtain⟨v5,w6,h1,h2⟩:=hp5;exact⟨v5,w6,h1,hR _ _ h2⟩
   case exit=>obtain⟨v5,w6,h1,h2⟩:=hp5;exact⟨v5,w6,h1,hR _ _ h2⟩
   case goto=>obtain⟨v5,w6,h1,h2⟩:=hp5;exact⟨v5,w6,h1,hR _ _ h2⟩
  |_=>exact hp
 have hrecE:W1.heap[w.heap.size+1]? =some (.loop {rec with state:= .ready,pending:=none}):=by rw [hL1,hrec]
 have he0:(qA S (rC (w.heap.size+1) rec .ready none::Oi i0)).p W1 S:=⟨SH.le_refl _,⟨⟨y3,hrecE⟩,fun _ _=> .inl (lF _)⟩,fun f hf k hk hfk=>by have:=hlt f hf k hfk;have hk' :k=w.heap.size+1:=hk;omega,hoi1.weak⟩
 have hap0: ∀k,(qA S (rC (w.heap.size+1) rec .ready none::Oi i0)).fp k→ ¬fp k:=by
  rintro k ⟨f,hf,hk⟩ hfk
  rcases fk.1 hf with rfl|hf
  ·have:=hfp k hfk;have hk' :k=w.heap.size+1:=hk;omega
  ·exact hap f hf k hfk hk
 refine(hcall pT W1 S hext (fun _ _ h=>h) y2 _ (wP f) (none,dat i0) R hit _ _ hyld _ ⟨i0,rfl,rfl⟩ he0 hap0).mono ?_
 rintro en w2 ⟨e',S2,j,⟨vr,rfl⟩,⟨i',hi',rfl⟩,hx2,hs2,⟨hle2,hown2⟩,hob,hnew,hapo⟩
 have hl2:=hown2.1.1.2
 have hnb: ∀k,(BC w.heap.size).fp k→ ¬((qA S (rC (w.heap.size+1) rec .ready none::Oi i0)).fp k∨fp k):=by
  rintro k hk h
  have hk' :k=w.heap.size:=hk
  subst hk'
  rcases h with⟨f,hf,hfk⟩|h
  ·rcases fk.1 hf with rfl|hf
   ·have hk' :w.heap.size=w.heap.size+1:=hfk;omega
   ·have:=hlt f hf _ hfk;omega
  ·have:=hfp _ h;omega
 have hBin: ∀k,((qA S (rC (w.heap.size+1) rec .ready none::Oi i0)).fp k∨fp k)→E.w0.heap.size≤k∨E.B k:=by
  rintro k (⟨f,hf,hk⟩|h)
  ·rcases fk.1 hf with rfl|hf
   ·left;have hk' :k=w.heap.size+1:=hk;have:E.w0.heap.size≤w.heap.size:=hbl;omega
   ·exact(cJ.mem hoi f hf).2 k hk
  ·exact hbase k h
 have hBn: ∀k,((qA S (rC (w.heap.size+1) rec (Wt R.1.1) (R.1.1.map jc)::Oi i')).fp k∨Af (Ob R.2 j) k)→E.base≤k∨E.B k:=fun k hk=>(hnew k hk).elim (hBin k) (fun h=> .inl (by have h1:E.base≤w.heap.size:=hbl;have h2:W1.heap.size≤k:=h;omega))
 have hb2:cJ E.base E.B w2 S2 (rC (w.heap.size+1) rec (Wt R.1.1) (R.1.1.map jc)::(Ob R.2 j++Oi i')):=by
  obtain⟨q1,q2,q3⟩:=hown2
  refine cJ.cons ⟨q1.1,fun k hk=>hBn k (.inl ⟨_,kO ..,hk⟩)⟩ (fun f hf=>?_) (BQ (ku hob fun f hf k hk=>hBn k (.inr ⟨f,hf,hk⟩)) (ku q3 fun f hf k hk=>hBn k (.inl ⟨f,kN _ hf,hk⟩)) fun e he f hf k hek hfk=>hapo k ⟨f,kN _ hf,hfk⟩ ⟨e,he,hek⟩)
  rcases vM.1 hf with hf|hf
  ·exact fun k hk hfk=>hapo k ⟨_,kO ..,hk⟩ ⟨f,hf,hfk⟩
  ·exact q2 f hf
 have hend:Wt R.1.1≠ .busy:=by unfold Wt;split<;>simp
 obtain⟨z1,z2,z3⟩:=Bd (st' := .exhausted) (pd' :=R.1.1.map jc) hb2 hs2
 have hdf:(BC w.heap.size).p W1 S:=⟨x3,hK1⟩
 have sd:(BC w.heap.size).p w2 S2:=(BC w.heap.size).kept hdf hx2 hnb
 have hd3:=(BC w.heap.size).kept sd z1 (fun k hk hkl=>by have h1:k=w.heap.size:=hk;have h2:k=w.heap.size+1:=hkl;omega)
 have stE:St ⟨E.P,⟨E.N.n,xO w.heap.size::E.N.ds⟩,E.B,E.w0,E.S0,E.r⟩ (BC w.heap.size::(Ob R.2 j++Oi i')) G {a with defers:=[xO w.heap.size]++a.defers} (w2.putObj (w.heap.size+1) (.loop {rec with state:= .exhausted,pending:=R.1.1.map jc})) S2:=by
  refine⟨((st.ext.step0 hext).step hx2 hBin).step z1 (fun c hc=>z3.1.2 c hc),z2,?_,?_⟩
  ·refine cJ.cons ⟨hd3,fun k hk=> .inl (by have h1:k=w.heap.size:=hk;rw [h1];exact hbl)⟩ (fun f hf k hk hfk=>?_) z3.2.2
   have h1:k=w.heap.size:=hk
   have h2:((qA S (rC (w.heap.size+1) rec (Wt R.1.1) (R.1.1.map jc)::Oi i')).fp k∨Af (Ob R.2 j) k):=by
    rcases vM.1 hf with hf|hf
    ·exact .inr ⟨f,hf,hfk⟩
    ·exact .inl ⟨f,kN _ hf,hfk⟩
   rcases hnew k h2 with h|h
   ·exact hnb k hk h
   ·omega
  ·refine⟨st.facts.size,?_,fun j t hj=>t.mono (SH.le_trans (SH.le_refl S) hle2) (st.facts.at_ j t hj)⟩
   show xO w.heap.size::a.defers=_
   rw [st.facts.defers]
 obtain⟨k1,k2⟩:=k i' j hi' w.heap.size
 refine⟨_,_,run_endLoop hl2 hend,?_⟩
 cases hR1:R.1.1 with
 |none=>
  rw [hR1]at stE
  exact k1 hR1 _ _ S2 stE
 |some q=>
  rw [hR1]at stE
  have:=k2 q hR1 _ _ S2 stE
  show(jc q).wpIn (fw none) 0 E.P Q _ _
  have hE:fw (⟨E.P,⟨E.N.n,xO w.heap.size::E.N.ds⟩,E.B,E.w0,E.S0,E.r⟩:En).r=fw none:=hfw
  rw [hE]at this
  exact this
end

def Wx(l:List (Option Nat×Nat)):OI:={h:=fun n=>l.getD n (none,0)}
def dJ(P:Program){A X ρ:Type}(args:A→List Ty)(Ob:X→OI→List OE)(res:ρ→Ty)(f:X→A→Option (ρ×X)):Ty where
 p:=fun S v=> ∀x y R,f x y=some R→ ∃fid fst cap,v= .func (.func fid) fst cap∧ak P fid=true∧ ∀i w S' vs,SH.le S S' →jy w S' →w9 S' (args y) vs→cJ 0 pT w S' (Ob x i)→
  Calls P fid (fst++vs.toArray++cap) w fun en w' => ∃j v S'',en= .returned v∧(res R.1).p S'' v∧fY (Af (Ob x i)) w S' w' S'' ∧jy w' S'' ∧cJ 0 pT w' S'' (Ob R.2 j)∧ ∀k,Af (Ob R.2 j) k→Af (Ob x i) k∨w.heap.size≤k
 mono:=fun h k x y R hf=>by
  obtain⟨fid,fst,cap,e,hc,hs⟩:=k x y R hf
  exact⟨fid,fst,cap,e,hc,fun i w S' vs hle=>hs i w S' vs (SH.le_trans h hle)⟩
variable{A ρ:Type}{res:ρ→Ty}
theorem GO{args:A→List Ty}:(dJ P args Ob res (fun _ _=>none)).p S v:=fun _ _ _ h=>by cases h
section
section
variable{ty:TypeId}
theorem jO{args:A→List Ty}{f:X→A→Option (ρ×X)}{fid:FuncId}(hc:ak E.P fid=true)(hp:aI E.N G p (tV (aN b 0)))(hs: ∀x y R,f x y=some R→ ∀i,cX E.P fid (tV (aN b 0)::args y) (Ob x i) (fun _:OI=>res R.1) (fun j=>Ob R.2 j)):
  bS E O G ⟨dst,.makeFunc (.func fid) #[p] #[],ty,pos,after,g⟩ (dJ E.P args Ob res f):= .of_pure fun a w S _ _ hf=>by
 have h1:a.eval p=aN b 0:=hp S a hf
 refine⟨.func (.func fid) #[aN b 0] #[],by simp [execOp,Instr.makeFunc,h1],fun x y R hR=>⟨fid,#[aN b 0],#[],rfl,hc,fun i w' S' vs _ hsat hv ho=>?_⟩⟩
 have:=hs x y R hR i w' S' (aN b 0::vs) hsat ⟨rfl,hv⟩ ho
 rw [show(#[aN b 0]++vs.toArray++ #[]:Array Value)=(aN b 0::vs).toArray from by simp]
 exact this
end
theorem Bz{args:A→List Ty}{f:X→A→Option (ρ×X)}{x:X}{y:A}{R:ρ×X}{i:OI}{ty:TypeId}{fo:Operand}{xs:List Operand}(Or:List OE)(hO:O=Ob x i++Or)(hf:aI E.N G fo (dJ E.P args Ob res f))(hR:f x y=some R)(hx:jK E.N G xs (args y))(hpost: ∀j,Ob R.2 j++Or=post j):
  EffOK E O G ⟨some d,.call ⟨.value fo,xs.toArray,ats⟩,ty,pos,after,g⟩ post (fun _=>res R.1):=fun a w S hsat ho hF hb=>by
 subst hO
 obtain rfl:(fun j=>Ob R.2 j++Or)=post:=funext hpost
 obtain⟨fid,fst,cap,e,hc,hs⟩:=hf S a hF x y R hR
 have hr:(execOp a.eval ⟨some d,.call ⟨.value fo,xs.toArray,ats⟩,ty,pos,after,g⟩).run E.P w= .ok (.enter fid (fst++(xs.map a.eval).toArray++cap)) w:=by
  simp [execOp,resolve,e,Deferred.ofValue,invoke,ed hc]
 refine⟨fun c h=>(by cases h),?_⟩
 rw [hr]
 exact(hs i w S _ (SH.le_refl _) hsat (hx.tys hF) (nF ho).1.weak).mono fun en w' ⟨j,v,S',he,hv,h1,h2,h3,h4⟩=>⟨_,he,v,S',j,rfl,h1.more fun b ⟨f,hf,hb⟩=>⟨f,GI _ hf,hb⟩,h2,cJ.turn ho hb h1 h3 h4,hv⟩
theorem iG{t:Ty}{Ob:OI→List OE}{i:OI}(h:cX P f ts O1 (fun _:OI=>t) (fun _=>Ob i)):cX P f ts O1 (fun _:OI=>t) Ob:=fun w S vs hs hv ho=>
 (h w S vs hs hv ho).mono fun _ _ ⟨_,v,S',h1,h2,h3,h4,h5,h6⟩=>⟨i,v,S',h1,h2,h3,h4,h5,h6⟩
section
variable{t:ι→Ty}
theorem d6{rvs:List ResultVar}(hr:fn.results=rvs.toArray)(h1:Nat.beq rvs.length 1=false)(h:Qv P ⟨N,[]⟩ G rvs ts)(i:ι)(hO:O=O2 i)(ht:t i=tT ts):
  AT ⟨P,⟨N,[]⟩,Af O1,w0,S0,none⟩ (bodyPost P fn (Sp ⟨P,⟨N,[]⟩,Af O1,w0,S0,none⟩ O1 t O2)) .ret O G:=fun a w S st=>by
 obtain⟨vs,k1,k2,k3⟩:=h.run st.sat st.facts
 have hne: ¬vs.length=1:=by rw [k3];intro e;rw [e]at h1;cases h1
 refine⟨st.facts.defers,.tuple vs.toArray,?_,OY st rfl i hO (by rw [ht];exact⟨vs,rfl,k2⟩)⟩
 have e1:(fn.results.mapM (z7 a.tmps)).run P w= .ok vs.toArray w:=by
  rw [hr,List.mapM_toArray,Sem.run_map,k1]
  rfl
 have e3:results fn a.tmps=((fn.results.mapM (z7 a.tmps))>>=fun vs=>pure (if h:vs.size=1 then vs[0]else .tuple vs)):=rfl
 rw [e3,vJ,e1]
 simp [Result.andThen,hne]
end
def tPV(u:Value)(t:Ty):Ty where
 p:=fun S v=>v=u∧t.p S u
 mono:=fun h ⟨e,k⟩=>⟨e,t.mono h k⟩
theorem St.settleP{k:Nat}{x:α}(h:St E (bx r T b x::O) G a w S)(hk:de G k=some (tV (aN b 0))): ∃S',St E O ((k,tPV (aN b 0) (bK r x))::G) a w S' :=by
 obtain⟨S',h1⟩:=h.settleB hk
 have hv:a.tmps.getD k undef=aN b 0:=h.facts.at_ k _ hk
 refine⟨S',⟨h1.ext,h1.sat,h1.own,⟨h1.facts.size,h1.facts.defers,fun j t hj=>?_⟩⟩⟩
 have hp:(bK r x).p S' (a.tmps.getD k undef):=h1.facts.at_ k _ (by simp [de])
 by_cases hb:Nat.beq k j=true
 ·have e:=oT hb
  subst e
  simp only [de,Nat.beq_refl,cond_true,AN]at hj
  subst hj
  exact⟨hv,by rw [←hv];exact hp⟩
 ·rw [xd]at hb
  have:de ((k,bK r x)::G) j=some t:=by
   simp only [de,hb,cond_false]at hj ⊢;exact hj
  exact h1.facts.at_ j t this
theorem AA{x:α}{e:Exit}(k:Nat)(hk:de G k=some (tV (aN b 0)))(h:AT E Q e O ((k,tPV (aN b 0) (bK r x))::G)):AT E Q e (bx r T b x::O) G:=
 fun a w _ st=>let⟨S',st'⟩:=st.settleP hk;h a w S' st'
theorem V7{hs:HL}{x:α}(h:cJ base B w S (bx (rH r hs) T b x::O)):cJ base B w S (bx r T b x::O):=by
 obtain⟨⟨⟨h1,c,h2,h3⟩,h4⟩,h5,h6⟩:=h
 exact⟨⟨⟨h1,c,h2,h3.1⟩,h4⟩,h5,h6⟩
theorem CK{hs:HL}{x:α}{e:Exit}(h:AT E Q e (bx r T b x::O) G):AT E Q e (bx (rH r hs) T b x::O) G:=fun a w S st=>h a w S (st.own_map V7)
theorem Ca{N:Fr}{G:mu}{k j:Nat}{t:Ty}(ti:TI P T 1 bytes false z)(hk:de G k=some (bK rV u))(hj:de G j=some (tPV u t)):Ph P N G (.cell k T) t:=fun a w S hs hf=>by
 obtain⟨v,h1,h2⟩:=bq (r:=rV) ti rfl rfl hk a w S hs hf
 have h3:=(vW.1 h2).1
 subst h3
 obtain⟨_,h4⟩:=hf.at_ j _ hj
 exact⟨v,h1,h4⟩
end
variable{et kt:TypeId}{kv:κ→Value}{os:List (Option Nat×Nat)}
section
variable [DecidableEq κ]{k:κ}{i v:Operand}{dst:Option Nat}{ty:TypeId}
theorem eE{y:β}(hm:E.P.underlying t=some (.map kt et))(hk:HD E.P kt kv)(hx:aI E.N G x (tV (qP b)))(hi:LD E.N G i (kv k))(hv:aI E.N G v (γ y))(h: ∀os',RG E ops Q rest (nO (wY γ) kv b none os' (dj m k y)::O) G):
  RG E ops Q (⟨none,.insert t x i v,ty,pos,after,none⟩::rest) (nO (wY γ) kv b none os m::O) G:= .of rfl fun a w S st=>by
 have h1:a.eval x=qP b:=hx S a st.facts
 have h2:a.eval i=kv k:=hi S a st.facts
 have h3:(γ y).p S (a.eval v):=hv S a st.facts
 obtain⟨⟨hp,hfp⟩,hap,hO⟩:=st.own
 obtain⟨hno,hnb,es,clock,e3,e4,hst⟩:=hp
 obtain⟨q,hq,hdk,hinj⟩:=hk
 obtain⟨os1,p1,p2,_⟩:=tQ hdk hinj (k:=k) 0 e4
 have hnb1: ∀o∈os1,o.1≠some b:=fun o ho=>by
  rcases p1 o ho with h|h
  ·exact hnb o h
  ·rw [h];exact fun e=>by cases e
 obtain⟨w',os',r,x1,x2,x3,x4⟩:=PT (V:=wY γ) (E:=E) (y:=y) (o:=(none,0)) (val:=a.eval v) st.sat hm ⟨q,hq,hdk,hinj⟩ ⟨hno,hnb1,es,clock,e3,p2,hst⟩ ⟨rfl,h3⟩ (fun e=>by cases e) (fun _ _ _ e=>by cases e)
 have hrun:(execOp a.eval ⟨none,.insert t x i v,ty,pos,after,none⟩).run E.P w= .ok .skip w' :=by simp [execOp,h1,h2,r]
 refine⟨fun c h=>(by cases h),?_⟩
 rw [hrun]
 have hfp' : ∀j,(nO (wY γ) kv b none os' (dj m k y)).fp j→(nO (wY γ) kv b none os m).fp j:=fun j hj=>by
  rcases x4 j hj with(h|⟨o,ho,e⟩)|e
  ·exact .inl h
  ·rcases p1 o ho with h|h
   ·exact .inr ⟨o,h,e⟩
   ·rw [h]at e;cases e
  ·cases e
 exact h os' _ _ S ⟨st.ext.step x1 (fun c hc=>hfp c (.inl hc)),x2,⟨⟨x3,fun j hj=>hfp j (hfp' j hj)⟩,fun f hf j hj=>hap f hf j (hfp' j hj),hO.ext x1 fun f hf j hj hjb=>hap f hf j (.inl hjb) hj⟩,st.facts⟩
end
def isT(b:Bool):Option Unit:=if b then some ()else none
theorem RH{b:Bool}{u:Unit}(h:isT b=some u):b=true:=by
 unfold isT at h
 split at h
 ·assumption
 ·cases h

def Hl{κ β:Type}(γ:β→Ty)(kv:κ→Value)(S:SH):List MapEntry→List (κ×β)→Prop
 |[],[]=>True
 |e::es,q::m=>e.key=kv q.1∧(γ q.2).p S e.val∧(∀p∈m,p.1≠q.1)∧Hl γ kv S es m
 |_,_=>False
theorem Am{κ β:Type}{γ:β→Ty}{kv:κ→Value}{S S' :SH}(h:SH.le S S'): ∀{es:List MapEntry} {m:List (κ×β)},Hl γ kv S es m→Hl γ kv S' es m
 |[],[],_=>trivial
 |_::_,q::_,⟨h1,h2,h3,h4⟩=>⟨h1,(γ q.2).mono h h2,h3,Am h h4⟩
theorem So{κ β:Type} [DecidableEq κ]{γ:β→Ty}{kv:κ→Value}{w:World}{S:SH}: ∀{es:List MapEntry} {os:List (Option Nat×Nat)} {m:List (κ×β)},w7 (wY γ) kv w S none es os m→Hl γ kv S es m
 |[],[],[],_=>trivial
 |_::_,_::_,_::_,⟨h1,h2,_,h4,h5⟩=>⟨h1,by rw [aL (by simp)]at h2;exact h2.2,h4,So h5⟩
theorem Tf{κ β:Type} [DecidableEq κ]{γ:β→Ty}{kv:κ→Value}{w:World}{S:SH}: ∀{es:List MapEntry} {m:List (κ×β)},Hl γ kv S es m→w7 (wY γ) kv w S none es (m.map fun _=>(none,0)) m
 |[],[],_=>trivial
 |_::_,_::_,⟨h1,h2,h3,h4⟩=>⟨h1,by rw [aL (by simp)];exact⟨rfl,h2⟩,fun _ _ _ h=>(by cases h),h3,Tf h4⟩
def NV{κ β:Type}(γ:β→Ty)(kv:κ→Value)(m:List (κ×β)):Ty where
 p:=fun S v=> ∃b es clock,v=qP b∧S b=some (.map es clock)∧Hl γ kv S es.toList m
 mono:=fun h ⟨b,es,cl,e,h1,h2⟩=>by
  obtain⟨o',h3,h4⟩:=h b _ h1
  have h5:o' = .map es cl:=h4
  subst h5
  exact⟨b,es,cl,e,h3,Am h h2⟩
theorem T0: ∀S v,(NV γ kv m).p S v→v.oneCell' =true:=fun _ _ ⟨_,_,_,e,_⟩=>by rw [e];rfl
section
variable [DecidableEq κ]{k:κ}{i:Operand}{dst:Option Nat}{ty:TypeId}
theorem Kv{z:β}{zv:Value}(hm:E.P.underlying t=some (.map kt et))(hk:HD E.P kt kv)(hz:ZV E.P et zv)(hzt: ∀S,(γ z).p S zv)(hx:aI E.N G x (NV γ kv m))(hi:LD E.N G i (kv k)):
  bS E O G ⟨dst,.lookup t x i false,ty,pos,after,g⟩ (γ ((pw m k).getD z)):= .of_pure fun a w S hs ho hf=>by
 obtain⟨b,es,clock,h1,h3,h4⟩:=hx S a hf
 obtain⟨o',h5,h6⟩:=hs b _ h3
 have h7:o' = .map es clock:=h6
 subst h7
 obtain⟨q,hq,hd,hinj⟩:=hk
 have h2:a.eval i=kv k:=hi S a hf
 obtain⟨_,_,_,h8⟩:=tQ hd hinj (k:=k) 0 (Tf (w:=w) h4)
 rcases h8 with⟨g1,g2⟩|⟨y,o,e,j,g1,g2,g3,g4,g5⟩
 ·refine⟨zv,by simp [execOp,h1,h2,nl hm hq (hd k) h5 hz g2],by rw [g1];exact hzt S⟩
 ·refine⟨e.val,by simp [execOp,h1,h2,nl hm hq (hd k) h5 hz g4],by rw [g1];exact g3.2⟩
theorem St.settleMp{j:Nat}(h:St E (nO (wY γ) kv b none os m::O) G a w S)(hk:de G j=some (tV (qP b))): ∃S',St E O ((j,NV γ kv m)::G) a w S' :=by
 obtain⟨⟨hn,_,es,clock,h3,h4,_⟩,_⟩:=h.own.1
 obtain⟨h8,hle,_,_⟩:=z6 h (.inl rfl) h3 (vm _) hn
 have hv:a.tmps.getD j undef=qP b:=h.facts.at_ j _ hk
 exact⟨_,h8.cons ⟨b,es,clock,hv,by simp [SH.set],Am hle (So h4)⟩⟩
theorem LM{e:Exit}(j:Nat)(hk:de G j=some (tV (qP b)))(h:AT E Q e O ((j,NV γ kv m)::G)):AT E Q e (nO (wY γ) kv b none os m::O) G:=
 fun a w _ st=>let⟨S',st'⟩:=st.settleMp hk;h a w S' st'
end
def y7(P:Program){α β:Type}(args:α→List Ty)(res:β→Ty)(f:α→Option β):Ty where
 p:=fun S v=> ∀x y,f x=some y→ ∃fid cap,v= .func (.func fid) #[] cap∧ak P fid=true∧ ∀w S' vs,SH.le S S' →jy w S' →w9 S' (args x) vs→
  Calls P fid (vs.toArray++cap) w fun e w' => ∃v S'',e= .returned v∧fY pT w S' w' S'' ∧jy w' S'' ∧(res y).p S'' v
 mono:=fun h k x y hxy=>by
  obtain⟨f,cap,e,hc,k⟩:=k x y hxy
  exact⟨f,cap,e,hc,fun w S' vs hle=>k w S' vs (SH.le_trans h hle)⟩
theorem oQ{N:Fr}{res:β→Ty}{f:α→Option β}(h:aI N G x (dX P args res f)):aI N G x (y7 P args res f):=fun S a hf u y hxy=>by
 obtain⟨fid,cap,e,hc,k⟩:=h S a hf
 exact⟨fid,cap,e,hc,fun w S' vs=>k u y hxy w S' vs⟩
theorem TF{res:β→Ty}:(y7 P args res (fun _:α=>(none:Option β))).p S v:=fun _ _ h=>by cases h
theorem PO{ty:TypeId}{res:β→Ty}{f:α→Option β}{fo:Operand}{x:α}{y:β}{xs:List Operand}(hfo:aI E.N G fo (y7 E.P args res f))(h:f x=some y)(hx:jK E.N G xs (args x)):
  bS E O G ⟨dst,.call ⟨.value fo,xs.toArray,ats⟩,ty,pos,after,g⟩ (res y):=fun a w S hS _ hF=>by
 obtain⟨fid,cap,e,hc,hs⟩:=hfo S a hF x y h
 have hr:(execOp a.eval ⟨dst,.call ⟨.value fo,xs.toArray,ats⟩,ty,pos,after,g⟩).run E.P w= .ok (.enter fid ((xs.map a.eval).toArray++cap)) w:=by
  simp [execOp,resolve,e,Deferred.ofValue,invoke,ed hc]
 refine⟨fun c h=>(by cases h),?_⟩
 rw [hr]
 exact(hs w S _ (SH.le_refl _) hS (hx.tys hF)).mono fun e w' ⟨v,S',he,h1,h2,h3⟩=>⟨v,he,v,S',rfl,h1,h2,h3⟩

def GS:Nat:=1000000
def tGl{α:Type}(r:Rp α)(x:α)(g:Nat):Ty where
 p:=fun S _=>(bK r x).p S (aN g 0)
 mono:=fun h k=>(bK r x).mono h k
theorem Yj{x:α}{g:Nat}{vs:List Value}(hs:jy w S)(hg:(g,vs)∈glob)(hr: ∀S,r.rc S vs x):(bK r x).p S (aN g 0):=by
 obtain⟨c,T,fr,h1,h2⟩:=hs.gl _ hg
 refine⟨g,0,c,T,fr,rfl,h1,?_⟩
 rw [y4,←r.len (hr S)]
 have h3:c.toList.take vs.length=vs:=h2
 rw [h3]
 exact hr S
section
variable{ty:TypeId}
theorem R1{N:Fr}{t:Ty}(hf:cP N S a G)(h: ∀v,t.p S v):cP N S a ((GS,t)::G):=⟨hf.size,hf.defers,fun j u hj=>by
 unfold de at hj
 cases hb:Nat.beq GS j with
 |true=>
  rw [hb]at hj
  simp only [cond_true,AN]at hj
  rw [←hj];exact h _
 |false=>
  rw [hb]at hj
  simp only [cond_false]at hj
  exact hf.at_ j u hj⟩
theorem Qy{x:α}{v:Nat}{vs:List Value}{t:Ty}(hg:(v,vs)∈glob)(hr: ∀S,r.rc S vs x)(h:bS E O ((GS,tGl r x v)::G) o t):bS E O G o t:=fun a w S hs ho hf=>
 h a w S hs ho (R1 hf fun _=>Yj hs hg hr)
theorem Z4{N:Fr}{x:α}{v:Nat}:aI N ((GS,tGl r x v)::G) (.global v) (bK r x):=fun S a hf=>hf.at_ GS (tGl r x v) (by simp [de])
def PY(s:xb)(i:Int):Option Int:=(cN s i).map fun b=>(b.toNat:Int)
def V2(a b:xb):Int:=Lib.compareBytes a b
theorem Ua{s u:xb}(hf:E.P.funcs[f]? =some fn)(hname:(fn.name== "runtime.NumGoroutine")=false)(hb:fn.body.isNone=true)(hn:Extern.findNext fn=none)(he:Extern.find fn=some Extern.BytealgCompare.compare)(hx:aI E.N G x (tD rS s))(hy:aI E.N G y (tD rS u)):
  bS E O G ⟨dst,.call ⟨.value (.func f),#[x,y],ats⟩,ty,pos,after,g⟩ (tD (rI .i64) (V2 s u)):= .of_pure fun a w S _ _ hF=>by
 have h1:a.eval x= .string ⟨s.toArray⟩:=B5.1 (hx S a hF)
 have h2:a.eval y= .string ⟨u.toArray⟩:=B5.1 (hy S a hF)
 refine⟨.int .i64 (V2 s u),?_,cZ.2 rfl⟩
 have h3:=run_callFunc_extern hf hname hb hn he #[.string ⟨s.toArray⟩,.string ⟨u.toArray⟩] w
 rw [Lib.run_compareString]at h3
 have h0:a.eval (.func f)= .func (.func f) #[] #[]:=rfl
 simp [execOp,resolve,h0,Deferred.ofValue,invoke,h1,h2,h3,V2,Result.andThen]
end
open Go.MapKept (Stamped)
section
variable [DecidableEq κ]
end
section
variable [DecidableEq κ]{r:Nat}{left:List κ}{cur:Option κ}{k:κ}{i v:Operand}{dst:Option Nat}{ty:TypeId}
end
open Go.RowKit

section
variable{ty:TypeId}
theorem PN{y:α}{ix:Operand}{i:Int}(ht:E.P.underlying t=some (.array n e))(ti:TI E.P e sz bytes agg z)(hsz:r.sz=sz)(hag:r.agg=agg)(hx:aI E.N G x (tD (tz r n) xs))(hi:aI E.N G ix (tD (rI k) i))(hy:cN xs i=some y):bS E O G ⟨dst,.index t x ix,ty,pos,after,g⟩ (tD r y):= .of_pure fun a w S _ _ hf=>by
 obtain⟨cs,h1,h2,h3⟩:=hx S a hf
 have h1' :a.eval x= .agg cs.toArray:=h1
 have h4:a.eval ix= .int k i:=cZ.1 (hi S a hf)
 obtain⟨g1,g2⟩:=lW hy
 have hlt:i.toNat<xs.length:=(jM.1 g2).1
 have hg:=A8 h3 g2
 have hin:0≤i∧i<(n:Int):=⟨g1,by omega⟩
 refine⟨r.val ((cs.drop (i.toNat*r.sz)).take r.sz),?_,_,rfl,hg⟩
 have hp:(part e cs.toArray (i.toNat*sz)).run E.P w= .ok (r.val ((cs.drop (i.toNat*r.sz)).take r.sz)) w:=by
  subst hsz
  subst hag
  have hl:=r.len hg
  unfold part
  simp only [vJ,ti.isAgg,xe]
  cases hA:r.agg with
  |true=>
   simp [ti.sizeOf,Rp.val,hA]
  |false=>
   have h1:=r.sc hA
   rw [h1,Nat.mul_one]at hl ⊢
   cases hd:cs.drop i.toNat with
   |nil=>rw [hd]at hl;simp at hl
   |cons v l=>
    have hv:cs[i.toNat]? =some v:=by
     have:=wU (xs:=cs) (i:=i.toNat) (j:=0)
     rw [hd]at this
     simpa using this.symm
    simp [Rp.val,hA,hv]
 simp [execOp,h1',h4,Instr.index,asIntOf,lG ht,hin,ti.sizeOf,hp]

end

abbrev NG:=Nat→(Option Nat×Nat)×(Nat→Option Nat×Nat)
inductive NPl where
 |o
 |i (k:Nat)
 |l (k j:Nat)
section
def sd(q:Nat→Option Nat×Nat)(zs:List (List α)):List Value:=zs.mapIdx fun j z=>aR (q j).1 (q j).2 z.length
def Z3(prj:β→List (List α))(g:NG)(x:List β):List Value:=x.mapIdx fun k y=>aR (g k).1.1 (g k).1.2 (prj y).length
def nsB(prj:β→List (List α))(l:Option Nat)(g:NG)(x:List β)(h:Option (Nat×Nat)):NPl→Option Nat
 | .o=>l
 | .i k=>(x[k]?).bind fun _=>(g k).1.1
 | .l k j=>if h=some (k,j)then none else((x[k]?).bind fun y=>(prj y)[j]?).bind fun _=>((g k).2 j).1
structure nstP(prj:β→List (List α))(r:Rp α)(T1 T2 T3:TypeId)(l:Option Nat)(cap n:Nat)(g:NG)(x:List β)(h:Option (Nat×Nat))(w:World)(S:SH):Prop where
 len:x.length=n
 out:Cz false rV T1 l cap (Z3 prj g x) w S
 inn: ∀k y,x[k]? =some y→Cz false rV T2 (g k).1.1 (g k).1.2 (sd (g k).2 (prj y)) w S
 lvs: ∀k y j z,x[k]? =some y→(prj y)[j]? =some z→h≠some (k,j)→Cz true r T3 ((g k).2 j).1 ((g k).2 j).2 z w S
 inj: ∀s t b,nsB prj l g x h s=some b→nsB prj l g x h t=some b→s=t
variable{prj:β→List (List α)}{T1 T2 T3:TypeId}{l:Option Nat}{g:NG}{x:List β}{h:Option (Nat×Nat)}
end
section
variable{prj:β→List (List α)}{T1 T2 T3:TypeId}{l:Option Nat}{g:NG}{x:List β}{h:Option (Nat×Nat)}
variable{ty:TypeId}{gd:Option (Nat×Bool)}
open Classical in
noncomputable def acb(w:World)(S:SH)(P:Nat→Prop):SH:=fun b=>if P b then w.heap[b]? else S b
def g0(hs:List (Option Nat×Nat)):NG:=fun k=>(hs.getD k (none,0),fun _=>(none,0))
def tsB(l:Option Nat)(q:Nat→Option Nat×Nat)(zs:List (List α))(h:Option Nat):Option Nat→Option Nat
 |none=>l
 |some j=>if h=some j then none else(zs[j]?).bind fun _=>(q j).1
structure rowP(r:Rp α)(T2 T3:TypeId)(l:Option Nat)(cap n:Nat)(q:Nat→Option Nat×Nat)(zs:List (List α))(h:Option Nat)(w:World)(S:SH):Prop where
 len:zs.length=n
 inn:Cz false rV T2 l cap (sd q zs) w S
 lvs: ∀j z,zs[j]? =some z→h≠some j→Cz true r T3 (q j).1 (q j).2 z w S
 inj: ∀s t b,tsB l q zs h s=some b→tsB l q zs h t=some b→s=t
variable{q:Nat→Option Nat×Nat}{zs:List (List α)}{k:Option Nat}
end

def Gt(es:List Bool)(done:Array Bool):List Nat:=(List.range es.length).filter fun k=>(es[k]?).getD false&&done.getD k false
def Ur(es:List Bool)(i:Nat)(s:List Nat):List Nat:=(List.range es.length).filter fun k=>Nat.beq k i||s.contains k
def YV:List Nat→List Nat→Bool
 |[],[]=>true
 |a::s,b::t=>Nat.beq a b&&YV s t
 |_,_=>false
theorem Nj: ∀{s t:List Nat},YV s t=true→s=t
 |[],[],_=>rfl
 |a::s,b::t,h=>by
  simp only [YV,mi]at h
  rw [oT h.1,Nj h.2]
 |[],_::_,h=>by cases h
 |_::_,[],h=>by cases h
def QI:List (List Nat×((Nat→OI)→List OE))→List Nat→(Nat→OI)→List OE
 |[],_,_=>[]
 |p::r,s,σ=>bif YV p.1 s then p.2 σ else QI r s σ
theorem Bi{k:Nat}:k∈Gt es done↔es[k]? =some true∧done.getD k false=true:=by
 unfold Gt
 rw [Gz,List.mem_range,mi]
 constructor
 ·rintro⟨h1,h2,h3⟩
  refine⟨?_,h3⟩
  rw [oO h1]at h2 ⊢
  simpa using h2
 ·rintro⟨h1,h2⟩
  exact⟨(jM.1 h1).1,by rw [h1];rfl,h2⟩
theorem Ql{i:Nat}(h:es[i]? =some false):Gt es (done.setIfInBounds i true)=Gt es done:=by
 unfold Gt
 refine List.filter_congr fun k hk=>?_
 by_cases hik:i=k
 ·subst hik;rw [h];rfl
 ·rw [u0 false hik]
theorem V0{i:Nat}(h:es[i]? =some true)(hs:i<done.size):Gt es (done.setIfInBounds i true)=Ur es i (Gt es done):=by
 unfold Ur
 conv=>lhs;unfold Gt
 refine List.filter_congr fun k hk=>?_
 by_cases hik:i=k
 ·subst hik;simp [h,hs]
 ·rw [u0 false hik]
  have hb:Nat.beq k i=false:=by
   cases hb:Nat.beq k i with
   |false=>rfl
   |true=>exact absurd (oT hb).symm hik
  rw [hb,se,AC,Jt,Bi,mi]
  constructor
  ·rintro⟨h1,h2⟩
   refine⟨?_,h2⟩
   cases he:es[k]? with
   |none=>rw [he]at h1;cases h1
   |some b=>rw [he]at h1;simpa using h1
  ·rintro⟨h1,h2⟩
   exact⟨by rw [h1];rfl,h2⟩
def GP:List Nat→List (List Nat)
 |[]=>[[]]
 |k::l=>(GP l).map (k:: ·)++GP l
def Dv(es:List Bool):List Nat:=(List.range es.length).filter fun k=>(es[k]?).getD false
theorem xW(p:Nat→Bool): ∀l:List Nat,l.filter p∈GP l
 |[]=>zN.2 rfl
 |k::l=>by
  unfold GP
  rw [vM]
  by_cases h:p k=true
  ·rw [List.filter_cons_of_pos h]
   exact .inl (ui.2 ⟨_,xW p l,rfl⟩)
  ·rw [List.filter_cons_of_neg h]
   exact .inr (xW p l)
theorem Sw(es:List Bool)(done:Array Bool):Gt es done∈GP (Dv es):=by
 have:Gt es done=(Dv es).filter fun k=>done.getD k false:=by
  unfold Gt Dv
  rw [List.filter_filter]
  refine List.filter_congr fun k _=>Bool.and_comm ..
 rw [this]
 exact xW _ _
def noE(L:List Oper)(es:List Bool)(i:Nat)(s:List Nat):Bool:=
 s.contains i||(Dv es).any fun k=>if s.contains k then nK L L.length k i||(Dv es).any fun j=> !s.contains j&&nK L L.length k j else nK L L.length i k
def Pw(L:List Oper)(es:List Bool)(i:Nat)(aas:List (List Nat)):Bool:=(GP (Dv es)).all fun s=>noE L es i s||aas.any fun a=>YV a s
def LL{α:Type}(p:α→Prop):List α→Prop
 |[]=>True
 |a::l=>p a∧LL p l
theorem LL.mem{p:α→Prop}: ∀{l:List α},LL p l→ ∀a∈l,p a
 |_::_,⟨h,_⟩,_,.head _=>h
 |_::_,⟨_,h⟩,_,.tail _ hm=>LL.mem h _ hm
abbrev Zj:=List (List Nat×((Nat→OI)→List OE))
def DT(E:En)(G:mu)(L:List Oper)(ts:List TS)(Ss:Zj)(es0:List Bool):Nat→List Oper→List Bool→Prop
 |_,[],_=>True
 |i,o::rest,false::es=>(∃(needs:List NS) (t:TS) (aas:List (List Nat)),ts[i]? =some t∧wR G ts needs∧(needs.all fun n=>p7 L o i (n.at fun _=>pS))=true∧eF i o=true∧Qm L es0 i t=true∧Pw L es0 i aas=true∧o.dst.isSome=true∧
   LL (fun s=> ∀σ,cv E (QI Ss s σ) L.toArray (wK needs σ) o (t.at σ)) aas)∧DT E G L ts Ss es0 (i+1) rest es
 |i,o::rest,true::es=>(∃(needs:List NS) (t:TS) (aas:List (List Nat×List Nat)),ts[i]? =some t∧wR G ts needs∧(needs.all fun n=>p7 L o i (n.at fun _=>pS))=true∧eF i o=true∧Qm L es0 i t=true∧Pw L es0 i (aas.map (·.1))=true∧(aas.all fun p=>YV (Ur es0 i p.1) p.2)=true∧
   LL (fun p:List Nat×List Nat=> ∀σ,rO E L.toArray (QI Ss p.1 σ) (wK needs σ) o (fun x=>QI Ss p.2 (LY σ i x)) (fun x=>t.at (LY σ i x))) aas)∧DT E G L ts Ss es0 (i+1) rest es
 |_,_::_,[]=>False
theorem DT.get{ts:List TS}{Ss:Zj}{es0:List Bool}: ∀(r:List Oper) (es:List Bool) (k:Nat),DT E G L ts Ss es0 k r es→ ∀(j:Nat) (o:Oper),r[j]? =some o→
    ∃e,es[j]? =some e∧ ∃(needs:List NS) (t:TS),ts[k+j]? =some t∧wR G ts needs∧(needs.all fun n=>p7 L o (k+j) (n.at fun _=>pS))=true∧eF (k+j) o=true∧Qm L es0 (k+j) t=true∧
      (match e with
       |false=>o.dst.isSome=true∧ ∃aas,Pw L es0 (k+j) aas=true∧LL (fun s=> ∀σ,cv E (QI Ss s σ) L.toArray (wK needs σ) o (t.at σ)) aas
       |true=> ∃aas:List (List Nat×List Nat),Pw L es0 (k+j) (aas.map (·.1))=true∧(aas.all fun p=>YV (Ur es0 (k+j) p.1) p.2)=true∧LL (fun p:List Nat×List Nat=> ∀σ,rO E L.toArray (QI Ss p.1 σ) (wK needs σ) o (fun x=>QI Ss p.2 (LY σ (k+j) x)) (fun x=>t.at (LY σ (k+j) x))) aas):=by
  intro r
  induction r with
  |nil=>intro es k _ j o h;simp at h
  |cons p r ih=>
    intro es k h j o ho
    cases es with
    |nil=>exact h.elim
    |cons e es=>
      cases e with
      |false=>
        obtain⟨⟨needs,t,aas,g1,g2,g3,g4,g5,g6,g7,g8⟩,h2⟩:=h
        cases j with
        |zero=>
          simp at ho;subst ho
          exact⟨false,rfl,needs,t,g1,g2,g3,g4,g5,g7,aas,g6,g8⟩
        |succ j=>
          obtain⟨e',g1,g2⟩:=ih es (k+1) h2 j o (by simpa using ho)
          refine⟨e',by simpa using g1,?_⟩
          rw [show k+1+j=k+(j+1)from by omega]at g2
          exact g2
      |true=>
        obtain⟨⟨needs,t,aas,g1,g2,g3,g4,g5,g6,g7,g8⟩,h2⟩:=h
        cases j with
        |zero=>
          simp at ho;subst ho
          exact⟨true,rfl,needs,t,g1,g2,g3,g4,g5,aas,g6,g7,g8⟩
        |succ j=>
          obtain⟨e',g1,g2⟩:=ih es (k+1) h2 j o (by simpa using ho)
          refine⟨e',by simpa using g1,?_⟩
          rw [show k+1+j=k+(j+1)from by omega]at g2
          exact g2
structure Xn(E:En)(G:mu)(l:List Oper)(ts:List TS)(Ss:Zj)(es:List Bool)(done:Array Bool)(a:Act)(w:World)(S:SH)(σ:Nat→OI):Prop where
 ext:fY E.B E.w0 E.S0 w S
 sat:jy w S
 own:cJ E.base E.B w S (QI Ss (Gt es done) σ)
 size:a.tmps.size=E.N.n
 defers:a.defers=E.N.ds
 dsz:done.size=l.length
 down: ∀j o,l[j]? =some o→done.getD j false=true→ ∀e∈o.after,Region.binds .any e=true→done.getD e.on false=true
 old: ∀k t,de G k=some t→(∀j o,l[j]? =some o→done.getD j false=true→o.dst≠some k)→t.p S (a.tmps.getD k undef)
 new: ∀j o d p,l[j]? =some o→done.getD j false=true→o.dst=some d→ts[j]? =some p→(p.at σ).p S (a.tmps.getD d undef)
 deps: ∀j p,done.getD j false=true→ts[j]? =some p→ ∀k∈p.1,done.getD k false=true
section
variable{ts:List TS}{Ss:Zj}
theorem Xn.need(h:Xn E G L ts Ss es done a w S σ){i:Nat}(hi:L[i]? =some o)(hun:done.getD i true=false)(hwait: ∀e∈o.after,Region.binds .any e=true→done.getD e.on false=true){needs:List NS}(h1:wR G ts needs)(h2:(needs.all fun n=>p7 L o i (n.at fun _=>pS))=true):cP E.N S a (wK needs σ):=by
 have hlt:i<done.size:=by rw [h.dsz];exact(jM.1 hi).1
 have hun' :done.getD i false=false:=by
  simp [hlt]at hun ⊢;exact hun
 refine⟨h.size,h.defers,?_⟩
 have key: ∀n∈needs,(n.ty σ).p S (a.tmps.getD n.slot undef):=by
  intro n hn
  have hs:=jZ.1 h2 n hn
  have ho:=h1.mem n hn
  unfold p7 NS.at at hs
  unfold Wk at ho
  cases hsrc:n.src with
  |some j=>
   rw [hsrc]at hs ho
   simp only [mi]at hs
   obtain⟨hs1,hs2⟩:=hs
   cases hj:L[j]? with
   |none=>rw [hj]at hs1;cases hs1
   |some p=>
    rw [hj]at hs1
    cases hd:p.dst with
    |none=>simp only [hd]at hs1;cases hs1
    |some d=>
     simp only [hd]at hs1
     have hd' :=oT hs1
     subst hd'
     have hdone:done.getD j false=true:=by
      unfold CV at hs2
      obtain⟨e,he0,hb⟩:=ud.1 hs2
      have he:e∈o.after:=by simpa using he0
      simp only [mi]at hb
      have:=hwait e he hb.2
      rwa [oT hb.1]at this
     have hm:=ho σ
     cases hf:ts[j]? with
     |none=>rw [hf]at hm;simp at hm
     |some f=>
      rw [hf]at hm
      have e:f.at σ=n.ty σ:=by simpa using hm
      rw [←e]
      exact h.new j p n.slot f hj hdone hd hf
  |none=>
   rw [hsrc]at hs ho
   refine h.old _ _ (ho σ) fun j p hj hdone hd=>?_
   have:=jZ.1 hs p (rU hj)
   simp only [hd,Nat.beq_refl,mw,se]at this
   unfold CV at this
   obtain⟨e,he0,hb⟩:=ud.1 this
   have he:e∈p.after:=by simpa using he0
   simp only [mi]at hb
   have h3:=h.down j p hj hdone e he hb.2
   rw [oT hb.1]at h3
   rw [h3]at hun'
   cases hun'
 clear h1 h2
 intro k t hk
 unfold wK at hk
 induction needs with
 |nil=>simp [j6,de]at hk
 |cons n needs ih=>
  simp only [AB]at hk
  unfold j6 de at hk
  by_cases hb:Nat.beq n.slot k=true
  ·have hb' :Nat.beq (n.at σ).slot k=true:=hb
   rw [hb']at hk
   have:=oT hb
   subst this
   have h9:some (n.at σ).ty=some t:=by simpa using hk
   have e:n.ty σ=t:=pR h9
   rw [←e]
   exact key n (kO ..)
  ·rw [xd]at hb
   have hb' :Nat.beq (n.at σ).slot k=false:=hb
   rw [hb']at hk
   exact ih (fun m hm=>key m (kN _ hm)) hk
theorem Xn.step{σ' :Nat→OI}(h:Xn E G L ts Ss es done a w S σ){i:Nat}{p0:TS}{C:Nat→Prop}(hi:L[i]? =some o)(hdN: ∀d,o.dst=some d→d<E.N.n)(hs2: ∀d,o.dst=some d→ ∀j p,L[j]? =some p→done.getD j false=true→p.dst=some d→i=j)(hwait: ∀e∈o.after,Region.binds .any e=true→done.getD e.on false=true)(ht:ts[i]? =some p0)(hun:done.getD i true=false)(hdep: ∀k∈p0.1,k=i∨done.getD k false=true)(hext:fY C w S w' S')(hC: ∀b,C b→E.base≤b∨E.B b)(hsat:jy w' S')(hown:cJ E.base E.B w' S' (QI Ss (Gt es (done.setIfInBounds i true)) σ'))(hσ: ∀k,k≠i→σ' k=σ k)(hv:(p0.at σ').p S' v):
  Xn E G L ts Ss es (done.setIfInBounds i true) (a.put o.dst v) w' S' σ' :=by
 have hlt:i<done.size:=by rw [h.dsz];exact(jM.1 hi).1
 have hset: ∀j,(done.setIfInBounds i true).getD j false=true→j=i∨done.getD j false=true:=fun j hj=>by
  by_cases hij:i=j
  ·exact .inl hij.symm
  ·rw [u0 false hij]at hj;exact .inr hj
 have hseti:(done.setIfInBounds i true).getD i false=true:=by simp [hlt]
 have hun' :done.getD i false=false:=by simp [hlt]at hun ⊢;exact hun
 have hput: ∀k,(∀d,o.dst=some d→d≠k)→(a.put o.dst v).tmps.getD k undef=a.tmps.getD k undef:=fun k hk=>by
  cases hd:o.dst with
  |none=>rfl
  |some d=>
   have hda:d<a.tmps.size:=by rw [h.size];exact hdN d hd
   rw [rj hda,aL (hk d hd)]
 refine⟨h.ext.step hext hC,hsat,hown,?_,?_,by simp [h.dsz],fun j p hj hdone e he hb=>?_,fun k u hk hno=>?_,fun j p d' u hj hdone hd' hu=>?_,fun j u hj hu k hk=>?_⟩
 ·cases o.dst with
  |none=>exact h.size
  |some d=>simp [Act.put,h.size]
 ·cases o.dst with
  |none=>exact h.defers
  |some d=>exact h.defers
 ·rcases hset j hdone with rfl|hj'
  ·rw [hi]at hj
   have:o=p:=by simpa using hj
   subst this
   exact vK (hwait e he hb)
  ·exact vK (h.down j p hj hj' e he hb)
 ·rw [hput k fun d hd e=>hno i o hi hseti (by rw [hd,e])]
  exact u.mono hext.keep (h.old k u hk fun j p hj hdone=>hno j p hj (vK hdone))
 ·by_cases hij:j=i
  ·subst hij
   rw [hi]at hj
   have:o=p:=by simpa using hj
   subst this
   have hda:d' <a.tmps.size:=by rw [h.size];exact hdN d' hd'
   rw [hd',rj hda,aY rfl]
   rw [ht]at hu
   have:p0=u:=by simpa using hu
   subst this
   exact hv
  ·have hj' :=(hset j hdone).resolve_left hij
   rw [hput d' fun d hd e=>by subst e;exact hij (hs2 d hd j p hj hj' hd').symm]
   have e1:u.at σ' =u.at σ:=congrArg u.2 (GG fun k hk=>hσ k fun e=>by
     subst e
     rw [h.deps j u hj' hu k hk]at hun';cases hun')
   rw [e1]
   exact Ty.mono _ hext.keep (h.new j p d' u hj hj' hd' hu)
 ·rcases hset j hj with rfl|hj'
  ·rw [ht]at hu
   have:p0=u:=by simpa using hu
   subst this
   rcases hdep k hk with rfl|h'
   ·exact hseti
   ·exact vK h'
  ·exact vK (h.deps j u hj' hu k hk)
end
theorem Jx{l t:List Oper}{ts:List TS}{Ss:Zj}(hsl:xz E.N.n [] l=true)(hlen:ts.length=l.length)(hesl:es.length=l.length)(hd:DT E G (l++t) ts Ss es 0 l es)(ht:zl (l++t) l.length t.length=true)(hQ: ∀a w S σ,St E (QI Ss (Dv es) σ) (Kq l (Tk ts σ) G) a w S→wpListIn (fw E.r) 0 E.P (l++t).toArray Q t a w):
  ∀(fuel:Nat) (done:Array Bool) (a:Act) (w:World) (S:SH) (σ:Nat→OI),lv done=fuel→(∀j,l.length≤j→done.getD j false=false)→Xn E G (l++t) ts Ss es done a w S σ→wpAnyIn (fw E.r) 0 E.P .any (l++t).toArray Q fuel done a w:=by
 have hL1: ∀i o,i<l.length→(l++t)[i]? =some o→l[i]? =some o:=fun i o hi h=>by rwa [xi hi]at h
 have hL2: ∀i o,l[i]? =some o→(l++t)[i]? =some o:=fun i o h=>by rw [xi (jM.1 h).1];exact h
 have htail: ∀m o,l.length≤m→(l++t)[m]? =some o→wv (l++t) m=true∧eF m o=true:=fun m o hm ho=>by
  have hml:m<(l++t).length:=(jM.1 ho).1
  rw [iI]at hml
  unfold zl at ht
  have:=jZ.1 ht (m-l.length) (by simp;omega)
  rw [show l.length+(m-l.length)=m from by omega,ho]at this
  simp only [mi]at this
  exact⟨this.1,this.2.1⟩
 have hget:=fun i o (hi:l[i]? =some o)=>DT.get l es 0 hd i o hi
 have hedge: ∀i o,(l++t)[i]? =some o→eF i o=true:=fun i o hi=>by
  rcases m8 i l.length with h|h
  ·obtain⟨_,_,_,_,_,_,_,h,_⟩:=hget i o (hL1 i o h hi)
   simpa using h
  ·exact(htail i o h hi).2
 obtain⟨hs1,hs2⟩:=CY l [] hsl
 have fin: ∀fuel done a w S σ,lv done=fuel→(∀j,l.length≤j→done.getD j false=false)→Xn E G (l++t) ts Ss es done a w S σ→(∀i,i<l.length→done.getD i false=true)→wpAnyIn (fw E.r) 0 E.P .any (l++t).toArray Q fuel done a w:=by
  intro fuel done a w S σ hu hfree h hall
  have hdn:Gt es done=Dv es:=by
   unfold Gt Dv
   refine List.filter_congr fun k hk=>?_
   rw [hall k (by rw [←hesl];exact List.mem_range.1 hk),wH]
  have hown:=h.own
  rw [hdn]at hown
  refine zR (n:=l.length) (fun m o hm ho=>(htail m o hm ho).1) hedge t l.length done fuel a w (dy _) (by simp) h.dsz (fun j hj=>⟨fun hjd=>?_,fun hlt=>hall j hlt⟩) hu
   (hQ a w S σ ⟨h.ext,h.sat,hown,h.size,h.defers,fun j u hj=>?_⟩)
  ·rcases m8 j l.length with h' |h'
   ·exact h'
   ·rw [hfree j h']at hjd;cases hjd
  ·rcases G8 l (Tk ts σ) j u (by unfold Tk;rw [AK];exact hlen) hj with⟨i,o,h1,h2,h3⟩|⟨h1,h2⟩
   ·unfold Tk at h3
    rw [AL]at h3
    cases hf:ts[i]? with
    |none=>rw [hf]at h3;simp at h3
    |some f=>
     rw [hf]at h3
     have e:f.at σ=u:=by simpa using h3
     rw [←e]
     exact h.new i o j f (hL2 i o h1) (hall i (jM.1 h1).1) h2 hf
   ·refine h.old j u h1 fun i o ho hdn=>?_
    rcases m8 i l.length with h' |h'
    ·exact h2 o (rU (hL1 i o h' ho))
    ·rw [hfree i h']at hdn;cases hdn
 have lower: ∀done a w S σ i,(∀j,l.length≤j→done.getD j false=false)→Xn E G (l++t) ts Ss es done a w S σ→i∈Region.ready .any (l++t).toArray done→l.length≤i→ ∀j,j<l.length→done.getD j false=true:=by
  intro done a w S σ i hfree h hi hge j hj
  obtain⟨hun,p,hp,hwait⟩:=sZ.1 hi
  have hp' :(l++t)[i]? =some p:=by simpa using hp
  have hcov:=(htail i p hge hp').1
  unfold wv at hcov
  have hre:=jZ.1 hcov j (by simp;omega)
  exact gg h.down _ i j (fun q hq e he hb=>by
   have:q=p:=by rw [hp']at hq;simpa using hq.symm
   subst this
   exact hwait e he hb) hre
 intro fuel
 induction fuel with
 |zero=>
  intro done a w S σ hu hfree h
  exact fin 0 done a w S σ hu hfree h fun i hi=>uj hu (by rw [h.dsz,iI];omega)
 |succ fuel ih=>
  intro done a w S σ hu hfree h
  by_cases hall: ∀i,i<l.length→done.getD i false=true
  ·exact fin _ done a w S σ hu hfree h hall
  have hready0: ∀m i,i<m→i<l.length→Region.ready .any (l++t).toArray done=[]→done.getD i false=true:=by
   intro m
   induction m with
   |zero=>intro i h;omega
   |succ m ihm=>
    intro i him hil hr
    have his:i<done.size:=by rw [h.dsz,iI];omega
    by_cases hdn:done.getD i true=true
    ·rw [←oH his];exact hdn
    ·exfalso
     obtain⟨o,ho⟩: ∃o,(l++t)[i]? =some o:=⟨l[i],hL2 i _ (oO hil)⟩
     have hmem:i∈Region.ready .any (l++t).toArray done:=by
      rw [sZ]
      refine⟨by simpa using hdn,o,by simpa using ho,fun e he hb=>?_⟩
      have:=hedge i o ho
      unfold eF at this
      have:=jZ.1 this e (by simpa using he)
      simp only [hb,mw,se,wS]at this
      exact ihm e.on (by omega) (by omega) hr
     rw [hr]at hmem;cases hmem
  refine⟨fun hr=>absurd (fun i hi=>hready0 (i+1) i (by omega) hi hr) hall,fun i hi=>?_⟩
  have hil:i<l.length:=by
   rcases m8 i l.length with h' |h'
   ·exact h'
   ·exact absurd (lower done a w S σ i hfree h hi h') hall
  obtain⟨hun,o,ho,hwait⟩:=sZ.1 hi
  have ho' :(l++t)[i]? =some o:=by simpa using ho
  have hol:=hL1 i o hil ho'
  obtain⟨e,he,needs,u,h1,h2,h3,_,h4,h5⟩:=hget i o hol
  rw [uc]at h1 h3 h4
  have hF:=h.need ho' hun hwait h2 h3
  have his:i<done.size:=by rw [h.dsz,iI];omega
  have hun' :done.getD i false=false:=by rw [←oH his];exact hun
  have hu' :lv (done.setIfInBounds i true)=fuel:=by have:=qH hun;omega
  have huq: ∀d,o.dst=some d→ ∀j p,(l++t)[j]? =some p→done.getD j false=true→p.dst=some d→i=j:=fun d hdd j p hj hjd hpd=>by
   rcases m8 j l.length with h' |h'
   ·exact hs2 i j o p d hol (hL1 j p h' hj) hdd hpd
   ·rw [hfree j h']at hjd;cases hjd
  have hfree' : ∀j,l.length≤j→(done.setIfInBounds i true).getD j false=false:=fun j hj=>by
   rw [u0 false (by omega)];exact hfree j hj
  have hbl:E.base≤w.heap.size:=h.ext.size
  have hwaits: ∀q,(l++t)[i]? =some q→ ∀e∈q.after,Region.binds .any e=true→done.getD e.on false=true:=fun q hq e he hb=>by
   have:q=o:=by rw [ho']at hq;simpa using hq.symm
   subst this
   exact hwait e he hb
  have hdpp: ∀k∈u.1,k=i∨done.getD k false=true:=fun k hk=>by
   have:=jZ.1 h4 k hk
   simp only [mi,pW]at this
   rcases this.2 with hb|hb
   ·exact .inl (oT hb)
   ·exact .inr (gg h.down _ i k hwaits hb)
  have hdNN: ∀d,o.dst=some d→d<E.N.n:=fun d hd=>(hs1 o (rU hol) d hd).1
  unfold wpOpIn
  rw [ho]
  show if _ then _ else _
  -- just these effects stand
  have hpos:noE (l++t) es i (Gt es done)=false:=by
   rw [rR]
   intro hno
   unfold noE at hno
   rw [pW]at hno
   rcases hno with hc|hc
   ·have:=(Bi.1 (Jt.1 hc)).2
    rw [this]at hun';cases hun'
   ·obtain⟨k,hk1,hk2⟩:=ud.1 hc
    have hke:es[k]? =some true:=by
     unfold Dv at hk1
     rw [Gz,List.mem_range]at hk1
     have h7:=hk1.2
     rw [oO hk1.1]at h7 ⊢
     simpa using h7
    by_cases hin:(Gt es done).contains k=true
    ·rw [aY hin,pW]at hk2
     have hkd:=(Bi.1 (Jt.1 hin)).2
     rcases hk2 with hb|hb
     ·have:=gg h.down _ k i (fun q hq e he hb=>h.down k q hq hkd e he hb) hb
      rw [this]at hun';cases hun'
     ·obtain⟨j,hj1,hj2⟩:=ud.1 hb
      rw [mi,Dn]at hj2
      have hje:es[j]? =some true:=by
       unfold Dv at hj1
       rw [Gz,List.mem_range]at hj1
       have h7:=hj1.2
       rw [oO hj1.1]at h7 ⊢
       simpa using h7
      have hjd:=gg h.down _ k j (fun q hq e he hb=>h.down k q hq hkd e he hb) hj2.2
      have:=Jt.2 (Bi.2 ⟨hje,hjd⟩)
      rw [hj2.1]at this;cases this
    ·rw [aL hin]at hk2
     have hkd:=gg h.down _ i k hwaits hk2
     exact hin (Jt.2 (Bi.2 ⟨hke,hkd⟩))
  have hwin: ∀aas:List (List Nat),Pw (l++t) es i aas=true→Gt es done∈aas:=by
   intro aas hw
   unfold Pw at hw
   have:=jZ.1 hw _ (Sw es done)
   rw [hpos,se]at this
   obtain⟨b,hb1,hb2⟩:=ud.1 this
   rw [←Nj hb2];exact hb1
  cases e with
  |false=>
   simp only at h5
   obtain⟨hdS,aas,hw,h5⟩:=h5
   rw [uc]at hw
   obtain⟨d,hdd⟩:=Option.isSome_iff_exists.1 hdS
   have h6:=h5.mem _ (hwin aas hw) σ a w S h.sat h.own hF
   have hdq:=Ql (done:=done) he
   by_cases hw:Region.wanted o (yielded (l++t).toArray a.tmps)=true
   ·rw [aY hw]at h6 ⊢
    refine k5 (fun a' w' ⟨v,S',ha,hx,hs,hv⟩=>?_) h6
    subst ha
    exact ih _ _ _ S' _ hu' hfree' (h.step ho' hdNN huq hwait h1 hun hdpp hx (fun _ hb=>hb.elim) hs (by rw [hdq];exact h.own.ext0 hx) (fun _ _=>rfl) hv)
   ·rw [aL hw]at h6 ⊢
    exact⟨fun _ _=>trivial,ih _ _ _ S _ hu' hfree' (h.step ho' hdNN huq hwait h1 hun hdpp (fY.refl pT _ _) (fun _ hb=>hb.elim) h.sat (by rw [hdq];exact h.own) (fun _ _=>rfl) h6)⟩
  |true=>
   simp only [uc]at h5
   obtain⟨aas,hw,hins,h5⟩:=h5
   obtain⟨p,hp1,hp2⟩:=ui.1 (hwin _ hw)
   have hp3:=Nj (jZ.1 hins p hp1)
   have h6:=h5.mem p hp1 σ a w S h.sat (by rw [hp2];exact h.own) hF hbl
   have hdq:Gt es (done.setIfInBounds i true)=p.2:=by rw [V0 he his,←hp2,hp3]
   by_cases hw:Region.wanted o (yielded (l++t).toArray a.tmps)=true
   ·rw [aY hw]at h6 ⊢
    refine k5 (fun a' w' ⟨v,S',x,ha,hx,hs,hown,hv⟩=>?_) h6
    subst ha
    exact ih _ _ _ S' _ hu' hfree' (h.step ho' hdNN huq hwait h1 hun hdpp hx (fun b ⟨f,hf,hb⟩=>(cJ.mem h.own f (by rw [←hp2];exact hf)).2 b hb) hs (by rw [hdq];exact hown) (fun k hk=>Ef σ x hk) hv)
   ·rw [aL hw]at h6 ⊢
    obtain⟨x,hown,hv⟩:=h6
    exact⟨fun _ _=>trivial,ih _ _ _ S _ hu' hfree' (h.step ho' hdNN huq hwait h1 hun hdpp (fY.refl pT _ _) (fun _ hb=>hb.elim) h.sat (by rw [hdq];exact hown) (fun k hk=>Ef σ x hk) hv)⟩
theorem Tg{id:Nat}(m:Nat)(ts:List TS)(es:List Bool)(Ss:Zj)(hO: ∀σ,QI Ss [] σ=O)(hm:E.P.follows .mixedOrders=true)(hsl:xz E.N.n [] (L.take m)=true)(hlen:ts.length=(L.take m).length)(hesl:es.length=(L.take m).length)(ht:zl L (L.take m).length (L.drop m).length=true)(hd:DT E G L ts Ss es 0 (L.take m) es)(k: ∀σ:Nat→OI,RG E L.toArray Q (L.drop m) (QI Ss (Dv es) σ) (Kq (L.take m) (Tk ts σ) G)):CG E Q (.region id L.toArray true) O G:=fun a w S st=>by
 have hL:L=L.take m++L.drop m:=(vR m L).symm
 generalize L.take m=l at hL hsl hlen hesl ht hd k
 generalize L.drop m=t at hL ht k
 subst hL
 refine wpIn_region_any hm ?_
 obtain⟨he,hs⟩:=yj (w:=w) st.sat
 have hdn0:Gt es (Array.replicate (l++t).toArray.size false)=[]:=by
  unfold Gt
  refine NM.2 fun k hk=>?_
  simp [zP]
  intro _
  split<;>simp
 refine Jx hsl hlen hesl hd ht (fun a w S σ st=>k σ a w S st) _ _ _ _ S (fun _=>pS) ?_ (fun j _=>?_)
  ⟨st.ext.step0 he,hs,by rw [hdn0,hO];exact st.own.ext0 he,st.facts.size,st.facts.defers,by simp,fun j o hj hdone=>?_,fun k t hk _=>st.facts.at_ k t hk,fun j o d t hj hdone=>?_,fun j p hdone=>?_⟩
 ·unfold lv;rw [NN,NK];simp
 ·simp [zP];split<;>rfl
 ·simp [zP]at hdone
  split at hdone<;>simp at hdone
 ·simp [zP]at hdone
  split at hdone<;>simp at hdone
 ·simp [zP]at hdone
  split at hdone<;>simp at hdone

theorem cJ.perm(h:O.Perm O'):cJ base B w S O→cJ base B w S O' :=by
 induction h with
 |nil=>exact id
 |cons x p ih=>
  rintro⟨h1,h2,h3⟩
  exact⟨h1,fun f hf=>h2 f (p.mem_iff.2 hf),ih h3⟩
 |swap x y l=>
  rintro⟨h1,h2,h3,h4,h5⟩
  refine⟨h3,fun f hf k hk hfk=>?_,h1,fun f hf=>h2 f (kN _ hf),h5⟩
  rcases fk.1 hf with rfl|hf
  ·exact h2 x (kO ..) k hfk hk
  ·exact h4 f hf k hk hfk
 |trans _ _ ih1 ih2=>exact fun k=>ih2 (ih1 k)
def ut(O:List OE):List Nat→List OE
 |[]=>[]
 |i::l=>match O[i]? with
  |some e=>e::ut O l
  |none=>ut O l
theorem Bb(O:List OE): ∀a b:List Nat,ut O (a++b)=ut O a++ut O b
 |[],_=>rfl
 |i::a,b=>by
  simp only [vO,ut]
  split<;>simp [Bb O a b]
theorem Mv{a b:List Nat}(h:a.Perm b):(ut O a).Perm (ut O b):=by
 induction h with
 |nil=>exact .nil
 |cons x p ih=>
  simp only [ut]
  split
  ·exact .cons _ ih
  ·exact ih
 |swap x y l=>
  simp only [ut]
  cases hx:O[x]? <;>cases hy:O[y]? <;>simp<;>exact .swap ..
 |trans _ _ ih1 ih2=>exact ih1.trans ih2
theorem Kj(O:List OE):ut O (List.range O.length)=O:=by
 have key: ∀n,n≤O.length→ut O (List.range n)=O.take n:=by
  intro n
  induction n with
  |zero=>intro _;rfl
  |succ n ih=>
   intro h
   rw [List.range_succ,Bb,ih (by omega)]
   simp only [ut]
   rw [oO (by omega),Jv (by omega)]
 rw [key _ (dy _),xm]
theorem cJ.pick(l:List Nat)(hl:l.isPerm (List.range O.length)=true)(h:cJ base B w S O):cJ base B w S (ut O l):=
 h.perm (by
  have:=Mv (O:=O) (List.isPerm_iff.1 hl)
  rw [Kj]at this
  exact this.symm)

def RJ(i:Int)(n:Nat):Option Unit:=if 0≤i∧i<(n:Int)then some ()else none
section
section
variable{ty:TypeId}
end
end
open Go.ChangeShapes Go.WideShapes Go.ChangeAt

variable{H:Type}{W:World}{enc:TypeId×Value→H}
section
def KC(W:World):SH:=fun b=>W.heap[b]?
theorem XR(W:World)(hg: ∀p∈glob,∃c T fr,W.heap[p.1]? =some (.cells c T fr)∧c.toList.take p.2.length=p.2)(ht: ∀w' :World,(∀(b:Nat) (o:Obj),W.heap[b]? =some o→ ∃o',w'.heap[b]? =some o' ∧Ks o o')→ZH w'):jy W (KC W):=⟨fun _ o h=>⟨o,h,vm o⟩,hg,ht⟩
def zd(enc:TypeId×Value→H)(P:Program)(W:World){α:Type}(t:TypeId)(r:Rp α):Prop:=
 P.cellsOf t=r.sz∧ ∀fuel cs x,DataW.trod enc P W 0 (fun _=>true) true fuel t cs=some x→ ∃y,r.rc (KC W) cs y
theorem QU(h:P.underlying t=some .bool)(hc:P.cellsOf t=1):zd enc P W t rB:=⟨hc,fun fuel cs x hx=>by
 cases fuel with
 |zero=>simp [DataW.trod]at hx
 |succ n=>
  unfold DataW.trod at hx
  rw [h]at hx
  split at hx
  all_goals try (injections;done)
  ·exact⟨_,rfl⟩⟩
theorem vp{α β:Type}{f:α→Option β}: ∀{l:List α} {r:List β},l.mapM f=some r→r.length=l.length∧ ∀(i:Nat) (x:α),l[i]? =some x→ ∃y,r[i]? =some y∧f x=some y
 |[],r,h=>by
  simp at h
  subst h
  exact⟨rfl,fun i x hx=>by simp at hx⟩
 |a::l,r,h=>by
  rw [List.mapM_cons]at h
  cases hf:f a with
  |none=>rw [hf]at h;simp at h
  |some b=>
   rw [hf]at h
   cases hm:l.mapM f with
   |none=>rw [hm]at h;simp at h
   |some r' =>
    rw [hm]at h
    simp at h
    subst h
    obtain⟨h1,h2⟩:=vp hm
    refine⟨by simp [h1],fun i x hx=>?_⟩
    cases i with
    |zero=>simp at hx;subst hx;exact⟨b,rfl,hf⟩
    |succ i=>exact h2 i x (by simpa using hx)
theorem Cy{a:Addr}(h:W.cell? a=some v):a.spot=none∧ ∃c E fr,W.heap[a.block]? =some (.cells c E fr)∧c[a.off]? =some v:=by
 unfold World.cell? at h
 cases ho:W.heap[a.block]? with
 |none=>rw [ho]at h;cases h
 |some o=>
  rw [ho]at h
  cases o with
  |cells c E fr=>
   simp only at h
   by_cases hs:a.spot.isSome=true
   ·rw [aY hs]at h;cases h
   ·rw [aL hs]at h
    exact⟨by cases hq:a.spot with
     |none=>rfl
     |some s=>rw [hq]at hs;simp at hs,c,E,fr,rfl,h⟩
  |_=>simp at h
theorem Hv(a:Addr):a.add 0=a:=by unfold Addr.add;rfl
theorem Nt(h:W.cells? 0 ⟨b,off,none⟩ n=some cs)(hn:0<n): ∃c E fr,W.heap[b]? =some (.cells c E fr)∧cs=(c.toList.drop off).take n:=by
 unfold World.cells? at h
 rw [aY (lF _)]at h
 obtain⟨h1,h2⟩:=vp h
 obtain⟨v,_,hv⟩:=h2 0 0 (by simp [hn])
 obtain⟨_,c,E,fr,h3,h4⟩:=Cy hv
 refine⟨c,E,fr,by simpa [Addr.add] using h3,?_⟩
 apply Jr
 intro i
 have hl:cs.length=n:=by simpa using h1
 by_cases hi:i<n
 ·obtain⟨v,h5,h6⟩:=h2 i i (by simp [hi])
  obtain⟨_,c',E',fr',h7,h8⟩:=Cy h6
  rw [jT]at h7 h8
  have h7' :W.heap[b]? =some (.cells c' E' fr'):=h7
  have h3' :W.heap[b]? =some (.cells c E fr):=by simpa [Addr.add] using h3
  rw [h3']at h7'
  injection h7' with h7'
  injection h7' with e1
  subst e1
  rw [h5,BZ hi,wU]
  simpa using h8.symm
 ·rw [D4 (by omega),D4 (by simp;omega)]
theorem Py{q:Rp α}{len:Nat}{a:Addr}{x:DataW H×List MemPlace}(h0' :0<q.sz)(hq:zd enc P W e q)(hx:(let elemAt (i:Nat):Option (DataW H×List MemPlace):=(W.cells? 0 (a.add (i*P.cellsOf e)) (P.cellsOf e)).bind (DataW.trod enc P W 0 (fun _=>true) true n e)
   if 0≤a.block∧len≤cap∧cap≤maxLen then
    ((List.range len).mapM elemAt).bind fun elems=>
     (if(fun _=>true) a.block then(List.range (cap-len)).mapM fun j=>elemAt (len+j)else some []).map fun rest=>
      (DataW.slice (elems.map (·.1)) (rest.map (·.1)),MemPlace.row a ((elems.length+rest.length)*P.cellsOf e)++(elems++rest).flatMap (·.2))
   else none)=some x): ∃y,(fV q).rc (KC W) [.slice (some a) len cap] y:=by
 simp only at hx
 split at hx
 ·rename_i hcond
  obtain⟨_,hle,hmax⟩:=hcond
  cases hm:(List.range len).mapM (fun i=>(W.cells? 0 (a.add (i*P.cellsOf e)) (P.cellsOf e)).bind (DataW.trod enc P W 0 (fun _=>true) true n e))with
  |none=>rw [hm]at hx;simp at hx
  |some elems=>
   obtain⟨hm1,hm2⟩:=vp hm
   rw [hq.1]at hm2
   by_cases hl0:len=0
   ·subst hl0;exact⟨[],some a,cap,rfl,lF _,hmax,.inl rfl⟩
   have hsp0:a.spot=none:=by
    obtain⟨z,_,hz⟩:=hm2 0 0 (by rw [List.getElem?_range (by omega)])
    rw [Nat.zero_mul,Hv]at hz
    cases hcs:W.cells? 0 a q.sz with
    |none=>rw [hcs]at hz;simp at hz
    |some cs1=>
     unfold World.cells? at hcs
     rw [aY (lF _)]at hcs
     obtain⟨_,g2⟩:=vp hcs
     obtain⟨v,_,hv⟩:=g2 0 0 (by simp [h0'])
     rw [Hv]at hv
     exact(Cy hv).1
   have hcell: ∀i,i<len→ ∃c E fr,a.spot=none∧W.heap[a.block]? =some (.cells c E fr)∧ ∃y,q.rc (KC W) ((c.toList.drop (a.off+i*q.sz)).take q.sz) y:=by
    intro i hi
    obtain⟨z,_,hz⟩:=hm2 i i (by simp [hi])
    cases hcs:W.cells? 0 (a.add (i*q.sz)) q.sz with
    |none=>rw [hcs]at hz;simp at hz
    |some cs1=>
     rw [hcs]at hz
     have hsp:a.spot=none:=hsp0
     obtain⟨ab,ao,az⟩:=a
     simp only at hsp
     subst hsp
     rw [jT]at hcs
     obtain⟨c,E,fr,g1,g2⟩:=Nt hcs h0'
     obtain⟨y,hy⟩:=hq.2 n cs1 z hz
     exact⟨c,E,fr,rfl,g1,y,by rw [←g2];exact hy⟩
   obtain⟨c,E,fr,hsp,hb,_⟩:=hcell 0 (by omega)
   have key: ∀m,m≤len→ ∃ys:List α,ys.length=m∧uT q (KC W) ((c.toList.drop a.off).take (m*q.sz)) ys:=by
    intro m
    induction m with
    |zero=>intro _;exact⟨[],rfl,by simp [uT]⟩
    |succ m ih=>
     intro hm'
     obtain⟨ys,hy1,hy2⟩:=ih (by omega)
     obtain⟨c',E',fr',_,hb',y,hy⟩:=hcell m (by omega)
     rw [hb]at hb'
     injection hb' with hb'
     injection hb' with e1
     subst e1
     refine⟨ys++[y],by simp [hy1],?_⟩
     have hsplit:(c.toList.drop a.off).take ((m+1)*q.sz)=(c.toList.drop a.off).take (m*q.sz)++(c.toList.drop (a.off+m*q.sz)).take q.sz:=by
      rw [uL,Nat.one_mul,List.take_add,pV]
     rw [hsplit]
     exact wh hy2 (Mu.2 hy)
   obtain⟨ys,hy1,hy2⟩:=key len (dy _)
   obtain⟨ab,ao,az⟩:=a
   simp only at hsp
   subst hsp
   exact⟨ys,some ⟨ab,ao,none⟩,cap,by rw [hy1],by omega,hmax,.inr ⟨ab,ao,c,E,fr,rfl,hb,by rw [hy1];exact hy2⟩⟩
 ·cases hx
theorem oD{q:Rp α}(h:P.underlying t=some (.slice e))(hc:P.cellsOf t=1)(h0:Nat.blt 0 q.sz=true)(hq:zd enc P W e q):zd enc P W t (fV q):=⟨hc,fun fuel cs x hx=>by
 have h0' :0<q.sz:=by simpa [wS] using h0
 cases fuel with
 |zero=>simp [DataW.trod]at hx
 |succ n=>
  unfold DataW.trod at hx
  rw [h]at hx
  split at hx
  all_goals try (injections;done)
  ·exact⟨[],none,0,rfl,dy _,lF _,.inl rfl⟩
  ·rename_i e' a len cap heq
   injection heq with e1
   injection e1 with e1
   subst e1
   exact Py h0' hq hx⟩
def Wm(enc:TypeId×Value→H)(P:Program)(W:World){α:Type}(off:Nat)(l:List (TypeId×Nat))(r:Rp α):Prop:=
 ∀(fuel:Nat) (cs:List Value),cs.length=off+r.sz→(∀f∈l,∃x,DataW.trod enc P W 0 (fun _=>true) true fuel f.1 ((cs.drop f.2).take (P.cellsOf f.1))=some x)→ ∃y,r.rc (KC W) (cs.drop off) y
theorem rG{t:Nat}(h:zd enc P W t r):Wm enc P W off [(t,off)] r:=fun fuel cs hl hx=>by
 obtain⟨x,hx⟩:=hx _ (List.mem_singleton_self _)
 simp only at hx
 rw [h.1,sf (by simp;omega)]at hx
 exact h.2 _ _ _ hx
theorem fJ{p:Rp α}{t off' :Nat}{l:List (TypeId×Nat)}(h:zd enc P W t p)(ho:off' =off+p.sz)(hr:Wm enc P W off' l q):Wm enc P W off ((t,off)::l) (cO p q):=fun fuel cs hl hx=>by
 subst ho
 obtain⟨x,hx1⟩:=hx _ (kO ..)
 simp only at hx1
 rw [h.1]at hx1
 obtain⟨y,hy⟩:=h.2 _ _ _ hx1
 obtain⟨z,hz⟩:=hr fuel cs (by rw [hl];show off+(p.sz+q.sz)=_;omega) fun f hf=>hx f (kN _ hf)
 exact⟨(y,z),_,_,by rw [←pV];exact(vR _ _).symm,hy,hz⟩
theorem nU{l:List (TypeId×Nat)}{p:Rp α}{f:β→α}(ht:(P.underlying t).map (fun d=>match d with| .struct l=>(true,l.toList.map fun f=>(f.type,f.offset))|_=>(false,[]))=some (true,l))(hc:P.cellsOf t=p.sz)(hf: ∀y,∃x,f x=y)(hl:Wm enc P W 0 l p):zd enc P W t (qc p f):=⟨hc,fun fuel cs x hx=>by
 obtain⟨fs,h1,h2⟩: ∃fs,P.underlying t=some (.struct fs)∧fs.toList.map (fun f=>(f.type,f.offset))=l:=by
  cases hu:P.underlying t with
  |none=>rw [hu]at ht;cases ht
  |some d=>
   rw [hu]at ht
   cases d<;>simp at ht
   exact⟨_,rfl,ht⟩
 cases fuel with
 |zero=>simp [DataW.trod]at hx
 |succ n=>
  unfold DataW.trod at hx
  rw [h1]at hx
  change (if cs.length=P.cellsOf t then(fs.toList.mapM fun f=>DataW.trod enc P W 0 (fun _=>true) true n f.type ((cs.drop f.offset).take (P.cellsOf f.type))).map (fun xs=>(DataW.agg (xs.map (·.1)),xs.flatMap (·.2)))else none)=some x at hx
  split at hx
  ·rename_i hlen
   cases hm:fs.toList.mapM (fun f=>DataW.trod enc P W 0 (fun _=>true) true n f.type ((cs.drop f.offset).take (P.cellsOf f.type)))with
   |none=>rw [hm]at hx;simp at hx
   |some r=>
    obtain⟨_,hm2⟩:=vp hm
    obtain⟨y,hy⟩:=hl n cs (by rw [hlen,hc];omega) (fun g hg=>by
     rw [←h2,ui]at hg
     obtain⟨f0,hf0,rfl⟩:=hg
     obtain⟨i,hi⟩:=List.getElem?_of_mem hf0
     obtain⟨z,_,hz⟩:=hm2 i f0 hi
     exact⟨z,hz⟩)
    obtain⟨x',hx'⟩:=hf y
    refine⟨x',?_⟩
    show p.rc _ cs (f x')
    rw [hx']
    simpa using hy
  ·cases hx⟩
theorem Jc{W' :World}(h:fY pT W S W' S'):Below W.heap.size W W' :=⟨h.os,h.tape,h.output,h.size,fun k hk=>h.heap k hk (fun h=>h)⟩
theorem zk(hl:laidOutB P=true){W W' :World}(hb:Below W.heap.size W W'){sp:Nat→Bool}: ∀{ts:List TypeId} {vs:List Value} {ds:List (DataW H)} {ps:List MemPlace},(∀t∈ts,P.readableRec t=true∧t<P.types.size)→
  DataW.TrodAll enc P W 0 (fun _=>true) true ts vs ds ps→(∀p∈ps,p.block<W.heap.size)→(∀p∈ps,sp p.block=true)→DataW.TrodAll enc P W' 0 sp true ts vs ds ps
 |[],[],[],_,_,h,_,_=>h
 |t::ts,v::vs,d::ds,_,hr,⟨p,q,h1,h2,e⟩,hlt,hsp=>by
  subst e
  have ht:=hr t (kO ..)
  exact⟨p,q,WideElems.Trod_stays hl ht.1 ht.2 h1 (fun x hx=>hb.same (hlt x (GI _ hx))) (fun x hx=>hsp x (GI _ hx)),
   zk hl hb (fun t ht=>hr t (kN _ ht)) h2 (fun x hx=>hlt x (List.mem_append_right _ hx)) (fun x hx=>hsp x (List.mem_append_right _ hx)),rfl⟩
theorem RD{f:Func}{s:ChangeSpec}{apart fresh handsOn again:Bool}{W' :World}{args:Array Value}{ds gs:List (DataW H)}{before:List MemPlace}{tb:TypeId}(hl:laidOutB P=true)(hr: ∀t∈f.params.toList,P.readableRec t=true∧t<P.types.size)(hvs:s.vars=[])(hres:f.resultTypes= #[tb])(htb:P.underlying tb=some .bool)(hW:DataW.Whole enc P f.params.toList s.vars apart W args.toList ds gs before)(hs:s.fn H (ds++gs)={results:=[.lit (.bool true)],args:=ds})(hb:Below W.heap.size W W'):
  s.post enc P f apart fresh handsOn again W args (.bool true) W' :=by
 have hW0:=hW
 have hlt:=hW.lt
 obtain⟨pa,pv,hA,hV,rfl,hz,hn⟩:=hW
 rw [hvs]at hV
 have hpv:pv=[]:=by
  cases gs with
  |nil=>exact hV
  |cons g gs=>exact hV.elim
 subst hpv
 have hlt' : ∀p∈pa,p.block<W.heap.size:=fun p hp=>hlt p (by simpa using hp)
 have hargs: ∀sp:Nat→Bool,(∀p∈pa,sp p.block=true)→DataW.TrodAll enc P W' 0 sp true f.params.toList args.toList ds pa:=fun sp hsp=>zk hl hb hr hA hlt' hsp
 have hresT: ∀(b:Nat) (sp:Nat→Bool) (hd:Bool),DataW.TrodAll enc P W' b sp hd f.resultTypes.toList ((Value.bool true).resultList f.resultTypes.size) [.lit (.bool true)] []:=fun b sp hd=>by
  rw [hres]
  exact⟨[],[],⟨1,by simp [DataW.trod,htb,Value.cells]⟩,rfl,rfl⟩
 have hvT: ∀sp:Nat→Bool,DataW.TrodVars enc P W' sp s.vars (s.fn H (ds++gs)).vars []:=fun sp=>by
  rw [hvs,hs];rfl
 have hargs' : ∀sp:Nat→Bool,(∀p∈pa,sp p.block=true)→DataW.TrodAll enc P W' 0 sp true f.params.toList args.toList (s.fn H (ds++gs)).args pa:=fun sp hsp=>by rw [hs];exact hargs sp hsp
 have hres' : ∀(b:Nat) (sp:Nat→Bool) (hd:Bool),DataW.TrodAll enc P W' b sp hd f.resultTypes.toList ((Value.bool true).resultList f.resultTypes.size) (s.fn H (ds++gs)).results []:=fun b sp hd=>by rw [hs];exact hresT b sp hd
 have hold: ∀p∈pa,(fun b=>decide (b<W.heap.size)) p.block=true:=fun p hp=>by simpa using hlt' p hp
 refine⟨ds,gs,pa++[],[],pa,[],hW0,hres' _ _ _,hargs' _ hold,hvT _,World.keptBut_mono (fun p hp=>⟨hp,?_⟩) (hb.frame _),fun _=>?_⟩
 ·right;simpa using hp
 ·refine⟨?_,_,_,([]++pa)++[],⟨[]++pa,[],trodAll_append (hargs' _ (fun _ _=>rfl)) (hres' _ _ _),hvT _,rfl,?_,?_⟩,?_⟩
  ·intro j t r h1 h2
   rw [hres]at h1 h2
   cases j with
   |zero=>
    simp [Value.resultList]at h1 h2
    subst h1 h2
    simp [Value.okWide,htb,Cell.okWide,Cell.ok]
   |succ j=>simp at h1
  ·intro b off hp
   have hp' :MemPlace.cell b off∈pa:=by simpa using hp
   have:=hlt' _ hp'
   rw [hb.frozen (p:=⟨b,off,none⟩) this]
   exact hz b off (by simpa using hp')
  ·intro ha
   have:=hn ha
   simpa using this
  ·intro p hp _
   simpa using hp
end

section
def A9{α:Type}(r:Rp α)(ok:α→Prop):Rp α where
 sz:=r.sz
 agg:=r.agg
 rc:=fun S cs x=>r.rc S cs x∧ok x
 mono:=fun h k=>⟨r.mono h k.1,k.2⟩
 len:=fun k=>r.len k.1
 one:=fun k=>r.one k.1
 sc:=r.sc
def wL(k:IntKind)(n:Int):Prop:=k.min≤n∧n≤k.max
def inS(s:xb):Prop:=s.length≤maxLen
def Jm{α:Type}(ok:α→Prop)(xs:List α):Prop:=xs.length≤maxLen∧ ∀x∈xs,ok x
def Zi{α:Type}(_:α):Prop:=True
theorem Ei(h:P.underlying t=some (.int k))(hc:P.cellsOf t=1):zd enc P W t (A9 (rI k) (wL k)):=⟨hc,fun fuel cs x hx=>by
 cases fuel with
 |zero=>simp [DataW.trod]at hx
 |succ n=>
  unfold DataW.trod at hx
  rw [h]at hx
  split at hx
  all_goals try (injections;done)
  ·rename_i k1 k2 m heq
   injection heq with e
   injection e with e
   subst e
   split at hx
   ·rename_i h2
    obtain⟨rfl,h3⟩:=h2
    simp only [Lit.wf,mi,kX]at h3
    exact⟨m,rfl,h3⟩
   ·cases hx⟩
theorem QT(h:P.underlying t=some .string)(hc:P.cellsOf t=1):zd enc P W t (A9 rS inS):=⟨hc,fun fuel cs x hx=>by
 cases fuel with
 |zero=>simp [DataW.trod]at hx
 |succ n=>
  unfold DataW.trod at hx
  rw [h]at hx
  split at hx
  all_goals try (injections;done)
  ·rename_i s heq
   split at hx
   ·rename_i h2;exact⟨s.data.toList,rfl,(show s.data.toList.length≤maxLen from(show s.size=s.data.toList.length from rfl)▸h2)⟩
   ·cases hx⟩
theorem Pz(h:P.underlying t=some .bool)(hc:P.cellsOf t=1):zd enc P W t (A9 rB Zi):=
 ⟨hc,fun fuel cs x hx=>by obtain⟨y,hy⟩:=(QU (enc:=enc) (W:=W) h hc).2 fuel cs x hx;exact⟨y,hy,trivial⟩⟩
def Jp{α:Type}(r' r:Rp α)(ok:α→Prop):Prop:=r'.sz=r.sz∧r'.agg=r.agg∧ ∀S cs x,r'.rc S cs x→r.rc S cs x∧ok x
theorem mH:Jp (A9 r ok) r ok:=⟨rfl,rfl,fun _ _ _ h=>h⟩
theorem N3{α:Type}{r' r:Rp α}{ok:α→Prop}(h:Jp r' r ok){S:SH}: ∀{xs:List α} {cs:List Value},uT r' S cs xs→uT r S cs xs∧ ∀x∈xs,ok x
 |[],_,k=>⟨k,fun x hx=>by cases hx⟩
 |x::xs,_,⟨a,b,e,h1,h2⟩=>by
  obtain⟨g1,g2⟩:=h.2.2 _ _ _ h1
  obtain⟨g3,g4⟩:=N3 h h2
  exact⟨⟨a,b,e,g1,g3⟩,fun y hy=>by
   rcases fk.1 hy with rfl|hy
   ·exact g2
   ·exact g4 y hy⟩
theorem uQ{r' :Rp α}(h:Jp r' r ok):Jp (fV r') (fV r) (Jm ok):=⟨rfl,rfl,fun S cs xs ⟨a,cap,e,h1,h2,h3⟩=>by
 rcases h3 with h3|⟨b,off,c,E,fr,e1,e2,e3⟩
 ·exact⟨⟨a,cap,e,h1,h2,.inl h3⟩,by omega,fun x hx=>by rw [h3]at hx;cases hx⟩
 ·rw [h.1]at e3
  obtain⟨g1,g2⟩:=N3 h e3
  exact⟨⟨a,cap,e,h1,h2,.inr ⟨b,off,c,E,fr,e1,e2,g1⟩⟩,by omega,g2⟩⟩
theorem gW{p' p:Rp α}{q' :Rp β}{f:α→Prop}{g:β→Prop}(h:Jp p' p f)(k:Jp q' q g):Jp (cO p' q') (cO p q) (fun x=>f x.1∧g x.2):=
 ⟨by show p'.sz+q'.sz=p.sz+q.sz;rw [h.1,k.1],rfl,fun S cs x ⟨a,b,e,h1,h2⟩=>⟨⟨a,b,e,(h.2.2 _ _ _ h1).1,(k.2.2 _ _ _ h2).1⟩,(h.2.2 _ _ _ h1).2,(k.2.2 _ _ _ h2).2⟩⟩
theorem um{p' p:Rp α}{f:β→α}(h:Jp p' p ok):Jp (qc p' f) (qc p f) (fun x=>ok (f x)):=
 ⟨h.1,rfl,fun S cs x k=>h.2.2 _ _ _ k⟩
theorem Pd{r' :Rp α}(h:zd enc P W t r')(hr:Jp r' r ok)(hag:r.agg=true){d:DataW H}{ps:List MemPlace}(hv:DataW.Trod enc P W 0 (fun _=>true) true t v d ps)(hc:v= .agg v.cells): ∃y,(tD r y).p (KC W) v∧ok y:=by
 obtain⟨fuel,hx⟩:=hv
 obtain⟨y,hy⟩:=h.2 _ _ _ hx
 obtain⟨g1,g2⟩:=hr.2.2 _ _ _ hy
 exact⟨y,⟨_,by unfold Rp.val;rw [hag,aY rfl];exact hc,g1⟩,g2⟩
theorem BI{l:Array Field}(ht:P.underlying t=some (.struct l))(hv:Value.okWide P W .any base t v):v= .agg v.cells:=by
 unfold Value.okWide at hv
 rw [ht]at hv
 obtain⟨cs,e,_⟩:=hv
 rw [e]
 rfl
end

variable{Ds:List (DataW Unit)}
section
variable{held:Bool}
def Zd(P:Program)(W:World)(held:Bool)(t:TypeId)(D:DataW Unit)(cells:List Value):Prop:=
 P.cellsOf t=cells.length∧ ∀fuel cs x,DataW.trod (fun _=>()) P W 0 (fun _=>true) held fuel t cs=some x→x.1=D→cs=cells
theorem sl{n:Int}(h:P.underlying t=some (.int k))(hc:P.cellsOf t=1):Zd P W held t (.lit (.int k n)) [.int k n]:=⟨hc,fun fuel cs x hx hD=>by
 obtain⟨m,h1,h2,_⟩:=DataW.trod_int h hx
 subst h2
 simp only [DataW.lit.injEq,Lit.int.injEq,true_and]at hD
 rw [h1,hD]⟩
theorem H1{s:List UInt8}(h:P.underlying t=some .string)(hc:P.cellsOf t=1):Zd P W held t (.lit (.string s)) [.string ⟨s.toArray⟩]:=⟨hc,fun fuel cs x hx hD=>by
 obtain⟨m,h1,h2,_⟩:=DataW.trod_string h hx
 subst h2
 simp only [DataW.lit.injEq,Lit.string.injEq]at hD
 subst hD
 rw [h1]⟩
def FC(P:Program)(W:World)(held:Bool)(off:Nat)(l:List (TypeId×Nat))(Ds:List (DataW Unit))(cells:List Value):Prop:=
 ∀(n:Nat) (cs:List Value),cs.length=off+cells.length→(∀(i:Nat) f,l[i]? =some f→ ∃x,DataW.trod (fun _=>()) P W 0 (fun _=>true) held n f.1 ((cs.drop f.2).take (P.cellsOf f.1))=some x∧Ds[i]? =some x.1)→cs.drop off=cells
theorem IQ:FC P W held off [] [] []:=fun n cs hl _=>DY (by simp at hl;omega)
theorem mS{off' :Nat}{l:List (TypeId×Nat)}{D:DataW Unit}{c:List Value}(h:Zd P W held t D c)(ho:off' =off+c.length)(k:FC P W held off' l Ds cells):FC P W held off ((t,off)::l) (D::Ds) (c++cells):=fun n cs hl hx=>by
 obtain⟨x,h1,h2⟩:=hx 0 (t,off) rfl
 simp only [F5,AN]at h2
 have h3:=h.2 n _ x h1 h2.symm
 have h4:=k n cs (by rw [hl,ho,iI];omega) fun i f hf=>by simpa using hx (i+1) f (by simpa using hf)
 have e:cs.drop off=(cs.drop off).take (P.cellsOf t)++cs.drop off' :=by
  rw [ho,←h.1,←pV,vR]
 rw [e,h4]
 exact congrArg (· ++cells) h3
theorem zT{l:List (TypeId×Nat)}(ht:(P.underlying t).map (fun d=>match d with| .struct l=>(true,l.toList.map fun f=>(f.type,f.offset))|_=>(false,[]))=some (true,l))(hc:P.cellsOf t=cells.length)(hf:FC P W held 0 l Ds cells):Zd P W held t (.agg Ds) cells:=⟨hc,fun fuel cs x hx hD=>by
 obtain⟨fs,h1,h2⟩: ∃fs,P.underlying t=some (.struct fs)∧fs.toList.map (fun f=>(f.type,f.offset))=l:=by
  cases hu:P.underlying t with
  |none=>rw [hu]at ht;cases ht
  |some d=>
   rw [hu]at ht
   cases d<;>simp at ht
   exact⟨_,rfl,ht⟩
 obtain⟨xs,n,rfl,h3,h4,h5,h6⟩:=DataW.trod_struct h1 hx
 rw [h3]at hD
 simp only [DataW.agg.injEq]at hD
 have:=hf n cs (by rw [h4,hc];omega) fun i f hi=>by
  rw [←h2,AL]at hi
  obtain⟨f0,hf0,rfl⟩:=vS.1 hi
  have h7:=h6 i f0 (by simpa using hf0)
  have hlt:i<xs.length:=by
   have:=(jM.1 hf0).1
   rw [h5];simpa using this
  rw [oO hlt]at h7
  exact⟨xs[i],h7,by rw [←hD];simp [hlt]⟩
 rwa [y4]at this⟩
theorem TD{m:Nat}(ht:P.underlying t=some (.array m e))(hc:P.cellsOf t=cells.length)(hf:FC P W held 0 ((List.range m).map fun i=>(e,i*P.cellsOf e)) Ds cells):Zd P W held t (.agg Ds) cells:=⟨hc,fun fuel cs x hx hD=>by
 obtain⟨xs,n,rfl,h3,h4,h5,h6⟩:=DataW.trod_array ht hx
 rw [h3]at hD
 simp only [DataW.agg.injEq]at hD
 have:=hf n cs (by rw [h4,hc];omega) fun i f hi=>by
  rw [AL]at hi
  obtain⟨j,hj,rfl⟩:=vS.1 hi
  obtain⟨hlt,hj2⟩:=jM.1 hj
  simp at hlt hj2
  subst hj2
  have h7:=h6 i hlt
  have hlt' :i<xs.length:=by rw [h5];exact hlt
  rw [oO hlt']at h7
  exact⟨xs[i],h7,by rw [←hD];simp [hlt']⟩
 rwa [y4]at this⟩
theorem KF: ∀{L:List (String×DataW Unit)} {ps:List MemPlace},DataW.LaidVars P W L ps→ ∀n d,(n,d)∈L→ ∃g t cs fuel p,P.globalNamed n=some g∧(P.globals[g]?).map (·.type)=some t∧W.var? P n=some cs∧DataW.trod (fun _=>()) P W 0 (fun _=>true) false fuel t cs.toList=some (d,p)
 |(_,_)::_,_,⟨g,t,cs,fuel,p,_,h1,h2,h3,h4,_,_⟩,_,_,.head _=>⟨g,t,cs,fuel,p,h1,h2,h3,h4⟩
 |(_,_)::_,_,⟨_,_,_,_,_,_,_,_,_,_,h,_⟩,n,d,.tail _ hm=>KF h n d hm
theorem IH{L:List (String×DataW Unit)}(h:laidMet P L W){n:String}{d:DataW Unit}(hm:(n,d)∈L){g:Nat}(hg:P.globalNamed n=some g)(ht:(P.globals[g]?).map (·.type)=some t)(hc:Zd P W false t d cells):
  ∃c T fr,W.heap[g]? =some (.cells c T fr)∧c.toList.take cells.length=cells:=by
 obtain⟨ps,hL,_,_⟩:=h
 obtain⟨g',t',cs,fuel,p,h1,h2,h3,h4⟩:=KF hL n d hm
 obtain rfl:=pR (hg.symm.trans h1)
 obtain rfl:=pR (ht.symm.trans h2)
 have h5:=hc.2 fuel _ _ h4 rfl
 unfold World.var? at h3
 rw [hg]at h3
 simp only [bf]at h3
 split at h3
 ·rename_i c T fr hb
  cases h3
  exact⟨_,_,_,hb,by rw [h5,xm]⟩
 ·cases h3
end

section
variable{ty:TypeId}
end

section
variable{ty:TypeId}
theorem hH{N:Fr}{y:α}(hag:r.agg=true)(hr: ∀S,r.rc S [v] y)(h:aI N G x (tV (.agg #[v]))):aI N G x (tD r y):=fun S a hf=>⟨[v],by rw [Rp.val,aY hag];exact h S a hf,hr S⟩
end

section
variable{t:ι→Ty}
end

section
variable{ty:TypeId}
theorem Qi{x:α}{n:Int}{y' :Operand}{k' :IntKind}(ti:TI E.P T sz bytes agg z)(hsz:r.sz=sz)(hz:Nat.beq z.length sz=true)(h128:Nat.ble bytes 2048=true)(ht:E.P.underlying t=some (.slice T))(hx: ∀S,r.rc S z x)(hy:aI E.N G y (tD (rI k) n))(hy' :aI E.N G y' (tD (rI k') n))(h:nQ n x=some zs):
  EffOK E O G ⟨some d,.makeSlice t y y',ty,pos,after,g⟩ (fun i=>dT r T (i.h 0).1 (i.h 0).2 zs::O) (fun i=>tO r (i.h 0).1 (i.h 0).2 zs):=fun a w S hs ho hf hb=>by
 subst hsz
 obtain⟨i,zv,hi,h1,h2,h3,h4⟩:=ti.get
 obtain⟨m,rfl,hm,rfl⟩:=xr h
 have hyv:=cZ.1 (hy S a hf)
 have hyv' :=cZ.1 (hy' S a hf)
 have hz2:z.length=r.sz:=oT hz
 have h128' :=pj h128
 have hbytes:(i.bytes:Int)*(m:Int)≤281474976710656:=by
  have:i.bytes*m≤2048*68719476736:=vL (by omega) hm
  have h5:((i.bytes*m:Nat):Int)≤281474976710656:=by omega
  rwa [xl]at h5
 have hr:=run_make (P:=E.P) w t T i zv ht hi h3 k k' (m:Int) (m:Int) (by omega) (Int.le_refl _) hbytes (by omega)
 rw [AE,h1,h4]at hr
 obtain⟨he,hs'⟩:=qv (w:=w) (.cells (madeCells z.toArray (m*r.sz)) T (0,0)) hs
 have hrun:(execOp a.eval ⟨some d,.makeSlice t y y',ty,pos,after,g⟩).run E.P w= .ok (.value (.slice (some ⟨w.heap.size,0,none⟩) m m)) (w.alloc (.cells (madeCells z.toArray (m*r.sz)) T (0,0))):=by
  simp [execOp,hyv,hyv',hr]
 refine⟨fun c h=>(by cases h),?_⟩
 rw [hrun]
 have hfl:=flat_len hz2 m
 have hmc:=vq z m r.sz hz2
 have harr:Cz true r T (some w.heap.size) m (List.replicate m x) (w.alloc (.cells (madeCells z.toArray (m*r.sz)) T (0,0))) (S.set w.heap.size (.cells (madeCells z.toArray (m*r.sz)) T (0,0))):=by
  refine⟨(List.replicate m z).flatten,⟨_,xj w _,by simp,by simp only [maxLen];omega,by rw [size_madeCells],?_⟩,vk hx _ m,fun b hb=>?_⟩
  ·rw [hmc,CT]
   exact sf (by omega)
  ·rw [←pR hb]
   have e:madeCells z.toArray (m*r.sz)=((List.replicate m z).flatten).toArray:=by
    rw [←hmc]
   rw [aY rfl,←e]
   exact oy _ _ _
 refine⟨_,_,oi (some w.heap.size) m,rfl,he.more fun _ hb=>hb.elim,hs',qd ho he (e:=dT r T (some w.heap.size) m (List.replicate m x)) harr (fun b hb=>AI (pR hb)) hb,?_⟩;refine⟨?_,?_⟩
 ·show _=aR _ _ _
  rw [CT];rfl
 ·have h9:=p6 harr
  rw [CT]at h9
  exact h9
end
theorem Qu{t:ι→Ty}(hf:P.funcs[f]? =some fn)(hb:fn.body=some c)(hN:fn.ntmps=N)(hn:Nat.ble ts.length N=true)(h: ∀w0 S0,CG ⟨P,⟨N,[]⟩,Af O1,w0,S0,none⟩ (bodyPostM (fw none) 0 P fn (Sp ⟨P,⟨N,[]⟩,Af O1,w0,S0,none⟩ O1 t O2)) c O1 (tH 0 ts)):cX P f ts O1 t O2:=by
 subst hN
 intro w S vs hs hv ho
 exact jJ.1 (callsIn_of_wp_marks (F:=fw none) (n:=0) hf hb trivial (h w S _ w S ⟨fY.refl _ _ _,hs,ku ho fun f hf k hk=> .inr ⟨f,hf,hk⟩,mT hv _ (pj hn)⟩))
def Lt(x y c:Int):Option (Int×Int):=if 0≤x∧0≤y∧0≤c∧c≤1 then some ((x+y+c)%18446744073709551616,(x+y+c)/18446744073709551616)else none
section
variable{ty:TypeId}
theorem Kw{s u c:Int}{R:Int×Int}{z:Operand}(hf:E.P.funcs[f]? =some fn)(hname:(fn.name== "runtime.NumGoroutine")=false)(hb:fn.body.isNone=true)(hn:Extern.findNext fn=none)(he:Extern.find fn=some add64Entry)(hx:aI E.N G x (tD (rI .u64) s))(hy:aI E.N G y (tD (rI .u64) u))(hz:aI E.N G z (tD (rI .u64) c))(h:Lt s u c=some R):
  bS E O G ⟨dst,.call ⟨.value (.func f),#[x,y,z],ats⟩,ty,pos,after,g⟩ (tT [tD (rI .u64) R.1,tD (rI .u64) R.2]):= .of_pure fun a w S _ _ hF=>by
 have h1:a.eval x= .int .u64 s:=cZ.1 (hx S a hF)
 have h2:a.eval y= .int .u64 u:=cZ.1 (hy S a hF)
 have h5:a.eval z= .int .u64 c:=cZ.1 (hz S a hF)
 unfold Lt at h
 split at h
 ·rename_i hc
  cases h
  refine⟨.tuple #[.int .u64 ((s+u+c)%18446744073709551616),.int .u64 ((s+u+c)/18446744073709551616)],?_,[_,_],rfl,cZ.2 rfl,cZ.2 rfl,trivial⟩
  have h3:=run_callFunc_extern hf hname hb hn he #[.int .u64 s,.int .u64 u,.int .u64 c] w
  rw [run_add64 s u c hc.1 hc.2.1 hc.2.2.1 hc.2.2.2]at h3
  have h0:a.eval (.func f)= .func (.func f) #[] #[]:=rfl
  simp [execOp,resolve,h0,Deferred.ofValue,invoke,h1,h2,h5,h3,Result.andThen]
 ·cases h
end
end Go.Proofs.YtfhhakidodmdfaaGreatDoor

