/- dr of this claim: W41, W42, W43, W21, W27, W45, W46, W47, W52, W53, W56, W57, W58, W59, W61, W62, W60, W44, W55, W29, W54. -/
import Derived.Test.YtnmjbolollcokaaGreatDoorRdV3
import Derived.Test.YtnmjbolollcokaaGreatDoorRdV2
import Derived.ProofKit
import Derived.OpenShut
import Derived.LaidMore
import Derived.Laws.Externs
import Derived.WideKeyRuns
import Derived.WideKeyEntry
import Derived.Shelf.GgSortFunc.Insertion
import Derived.Shelf.Slices.In.SortNone
import Derived.Test.YtnmjbolollcokaaGreatDoorRdV1
import Derived.Shelf.Unicode.CaseTo
import Derived.Shelf.Unicode.DecodeSlow
set_option linter.all false
namespace Go.Proofs.YtnmjbolollcokaaGreatDoor
open Go

def E0(es:List Bool)(done:Array Bool):List Nat:=(List.range es.length).filter fun k=>(es[k]?).getD false&&done.getD k false
def QZ(es:List Bool)(i:Nat)(s:List Nat):List Nat:=(List.range es.length).filter fun k=>Nat.beq k i||s.contains k
def U4:List Nat→List Nat→Bool
 |[],[]=>true
 |a::s,b::t=>Nat.beq a b&&U4 s t
 |_,_=>false
variable{b:Bool}{t:TypeId}
theorem KA: ∀{s t:List Nat},U4 s t=true→s=t
 |[],[],_=>rfl
 |a::s,b::t,h=>by
  simp only [U4,lH]at h
  rw [pj h.1,KA h.2]
 |[],_::_,h=>by cases h
 |_::_,[],h=>by cases h
def N2:List (List Nat×((Nat→OI)→List OE))→List Nat→(Nat→OI)→List OE
 |[],_,_=>[]
 |p::r,s,σ=>bif U4 p.1 s then p.2 σ else N2 r s σ
variable{done:Array Bool}{es:List Bool}{k:IntKind}
theorem AA{k:Nat}:k∈E0 es done↔es[k]? =some true∧done.getD k false=true:=by
 unfold E0
 rw [List.mem_filter,List.mem_range,lH]
 constructor
 ·rintro⟨h1,h2,h3⟩
  refine⟨?_,h3⟩
  rw [q6 h1]at h2 ⊢
  simpa using h2
 ·rintro⟨h1,h2⟩
  exact⟨(qW.1 h1).1,by rw [h1];rfl,h2⟩
variable{i:Nat}
theorem Nw(h:es[i]? =some false):E0 es (done.setIfInBounds i true)=E0 es done:=by
 unfold E0
 refine List.filter_congr fun k hk=>?_
 by_cases hik:i=k
 ·subst hik;rw [h];rfl
 ·rw [vw false hik]
theorem Sl(h:es[i]? =some true)(hs:i<done.size):E0 es (done.setIfInBounds i true)=QZ es i (E0 es done):=by
 unfold QZ
 conv=>lhs;unfold E0
 refine List.filter_congr fun k hk=>?_
 by_cases hik:i=k
 ·subst hik;simp [h,hs]
 ·rw [vw false hik]
  have hb:Nat.beq k i=false:=by
   cases hb:Nat.beq k i with
   |false=>rfl
   |true=>exact absurd (pj hb).symm hik
  rw [hb,wS,yF,HM,AA,lH]
  constructor
  ·rintro⟨h1,h2⟩
   refine⟨?_,h2⟩
   cases he:es[k]? with
   |none=>rw [he]at h1;cases h1
   |some b=>rw [he]at h1;simpa using h1
  ·rintro⟨h1,h2⟩
   exact⟨by rw [h1];rfl,h2⟩
def Fo:List Nat→List (List Nat)
 |[]=>[[]]
 |k::l=>(Fo l).map (k:: ·)++Fo l
def CO(es:List Bool):List Nat:=(List.range es.length).filter fun k=>(es[k]?).getD false
variable{l:List (TypeId×Nat)}{α:Type}{p:Rp α}
theorem xO(p:Nat→Bool): ∀l:List Nat,l.filter p∈Fo l
 |[]=>tQ.2 rfl
 |k::l=>by
  unfold Fo
  rw [wT]
  by_cases h:p k=true
  ·rw [List.filter_cons_of_pos h]
   exact .inl (z7.2 ⟨_,xO p l,rfl⟩)
  ·rw [List.filter_cons_of_neg h]
   exact .inr (xO p l)
theorem PQ(es:List Bool)(done:Array Bool):E0 es done∈Fo (CO es):=by
 have:E0 es done=(CO es).filter fun k=>done.getD k false:=by
  unfold E0 CO
  rw [List.filter_filter]
  refine List.filter_congr fun k _=>Bool.and_comm ..
 rw [this]
 exact xO _ _
def X8(L:List Oper)(es:List Bool)(i:Nat)(s:List Nat):Bool:=
 s.contains i||(CO es).any fun k=>if s.contains k then n7 L L.length k i||(CO es).any fun j=> !s.contains j&&n7 L L.length k j else n7 L L.length i k
def Mx(L:List Oper)(es:List Bool)(i:Nat)(aas:List (List Nat)):Bool:=(Fo (CO es)).all fun s=>X8 L es i s||aas.any fun a=>U4 a s
def Jz{α:Type}(p:α→Prop):List α→Prop
 |[]=>True
 |a::l=>p a∧Jz p l
theorem Jz.mem{p:α→Prop}: ∀{l:List α},Jz p l→ ∀a∈l,p a
 |_::_,⟨h,_⟩,_,.head _=>h
 |_::_,⟨_,h⟩,_,.tail _ hm=>Jz.mem h _ hm
abbrev XZ:=List (List Nat×((Nat→OI)→List OE))
def DT(E:En)(G:mz)(L:List Oper)(ts:List TS)(Ss:XZ)(es0:List Bool):Nat→List Oper→List Bool→Prop
 |_,[],_=>True
 |i,o::rest,false::es=>(∃(needs:List NS) (t:TS) (aas:List (List Nat)),ts[i]? =some t∧wR G ts needs∧(needs.all fun n=>qx L o i (n.at fun _=>nz))=true∧fD i o=true∧Nx L es0 i t=true∧Mx L es0 i aas=true∧o.dst.isSome=true∧
   Jz (fun s=> ∀σ,bw E (N2 Ss s σ) L.toArray (wN needs σ) o (t.at σ)) aas)∧DT E G L ts Ss es0 (i+1) rest es
 |i,o::rest,true::es=>(∃(needs:List NS) (t:TS) (aas:List (List Nat×List Nat)),ts[i]? =some t∧wR G ts needs∧(needs.all fun n=>qx L o i (n.at fun _=>nz))=true∧fD i o=true∧Nx L es0 i t=true∧Mx L es0 i (aas.map (·.1))=true∧(aas.all fun p=>U4 (QZ es0 i p.1) p.2)=true∧
   Jz (fun p:List Nat×List Nat=> ∀σ,iO E L.toArray (N2 Ss p.1 σ) (wN needs σ) o (fun x=>N2 Ss p.2 (EI σ i x)) (fun x=>t.at (EI σ i x))) aas)∧DT E G L ts Ss es0 (i+1) rest es
 |_,_::_,[]=>False
variable{E:En}{G:mz}{L:List Oper}{Ss:XZ}{e:TypeId}{j n:Nat}{o:Oper}{r:Rp α}{ts:List TS}{x:Operand}
theorem DT.get{es0:List Bool}: ∀(r:List Oper) (es:List Bool) (k:Nat),DT E G L ts Ss es0 k r es→ ∀(j:Nat) (o:Oper),r[j]? =some o→
    ∃e,es[j]? =some e∧ ∃(needs:List NS) (t:TS),ts[k+j]? =some t∧wR G ts needs∧(needs.all fun n=>qx L o (k+j) (n.at fun _=>nz))=true∧fD (k+j) o=true∧Nx L es0 (k+j) t=true∧
      (match e with
       |false=>o.dst.isSome=true∧ ∃aas,Mx L es0 (k+j) aas=true∧Jz (fun s=> ∀σ,bw E (N2 Ss s σ) L.toArray (wN needs σ) o (t.at σ)) aas
       |true=> ∃aas:List (List Nat×List Nat),Mx L es0 (k+j) (aas.map (·.1))=true∧(aas.all fun p=>U4 (QZ es0 (k+j) p.1) p.2)=true∧Jz (fun p:List Nat×List Nat=> ∀σ,iO E L.toArray (N2 Ss p.1 σ) (wN needs σ) o (fun x=>N2 Ss p.2 (EI σ (k+j) x)) (fun x=>t.at (EI σ (k+j) x))) aas):=by
  intro r
  induction r with
  |nil=>intro es k _ j o h;simp at h
  |cons p r ih=>
    intro es k h j o ho
    cases es with
    |nil=>exact h.elim
    |cons e es=>
      cases e with
      |false=>
        obtain⟨⟨needs,t,aas,g1,g2,g3,g4,g5,g6,g7,g8⟩,h2⟩:=h
        cases j with
        |zero=>
          simp at ho;subst ho
          exact⟨false,rfl,needs,t,g1,g2,g3,g4,g5,g7,aas,g6,g8⟩
        |succ j=>
          obtain⟨e',g1,g2⟩:=ih es (k+1) h2 j o (by simpa using ho)
          refine⟨e',by simpa using g1,?_⟩
          rw [show k+1+j=k+(j+1)from by omega]at g2
          exact g2
      |true=>
        obtain⟨⟨needs,t,aas,g1,g2,g3,g4,g5,g6,g7,g8⟩,h2⟩:=h
        cases j with
        |zero=>
          simp at ho;subst ho
          exact⟨true,rfl,needs,t,g1,g2,g3,g4,g5,aas,g6,g7,g8⟩
        |succ j=>
          obtain⟨e',g1,g2⟩:=ih es (k+1) h2 j o (by simpa using ho)
          refine⟨e',by simpa using g1,?_⟩
          rw [show k+1+j=k+(j+1)from by omega]at g2
          exact g2
structure S7(E:En)(G:mz)(l:List Oper)(ts:List TS)(Ss:XZ)(es:List Bool)(done:Array Bool)(a:Act)(w:World)(S:SH)(σ:Nat→OI):Prop where
 ext:gW E.B E.w0 E.S0 w S
 sat:jU w S
 own:du E.base E.B w S (N2 Ss (E0 es done) σ)
 size:a.tmps.size=E.N.n
 defers:a.defers=E.N.ds
 dsz:done.size=l.length
 down: ∀j o,l[j]? =some o→done.getD j false=true→ ∀e∈o.after,Region.binds .any e=true→done.getD e.on false=true
 old: ∀k t,look G k=some t→(∀j o,l[j]? =some o→done.getD j false=true→o.dst≠some k)→t.p S (a.tmps.getD k undef)
 new: ∀j o d p,l[j]? =some o→done.getD j false=true→o.dst=some d→ts[j]? =some p→(p.at σ).p S (a.tmps.getD d undef)
 deps: ∀j p,done.getD j false=true→ts[j]? =some p→ ∀k∈p.1,done.getD k false=true
variable{S:SH}{d:Nat}{κ β:Type}{m:List (κ×β)}{ty:TypeId}{u:Ty}{v:Value}{w:World}
section
theorem S7.need{a:Act}{σ:Nat→OI}(h:S7 E G L ts Ss es done a w S σ)(hi:L[i]? =some o)(hun:done.getD i true=false)(hwait: ∀e∈o.after,Region.binds .any e=true→done.getD e.on false=true){needs:List NS}(h1:wR G ts needs)(h2:(needs.all fun n=>qx L o i (n.at fun _=>nz))=true):dr E.N S a (wN needs σ):=by
 have hlt:i<done.size:=by rw [h.dsz];exact(qW.1 hi).1
 have hun' :done.getD i false=false:=by
  simp [hlt]at hun ⊢;exact hun
 refine⟨h.size,h.defers,?_⟩
 have key: ∀n∈needs,(n.ty σ).p S (a.tmps.getD n.slot undef):=by
  intro n hn
  have hs:=pi.1 h2 n hn
  have ho:=h1.mem n hn
  unfold qx NS.at at hs
  unfold Sx at ho
  cases hsrc:n.src with
  |some j=>
   rw [hsrc]at hs ho
   simp only [lH]at hs
   obtain⟨hs1,hs2⟩:=hs
   cases hj:L[j]? with
   |none=>rw [hj]at hs1;cases hs1
   |some p=>
    rw [hj]at hs1
    cases hd:p.dst with
    |none=>simp only [hd]at hs1;cases hs1
    |some d=>
     simp only [hd]at hs1
     have hd' :=pj hs1
     subst hd'
     have hdone:done.getD j false=true:=by
      unfold B4 at hs2
      obtain⟨e,he0,hb⟩:=Cy.1 hs2
      have he:e∈o.after:=by simpa using he0
      simp only [lH]at hb
      have:=hwait e he hb.2
      rwa [pj hb.1]at this
     have hm:=ho σ
     cases hf:ts[j]? with
     |none=>rw [hf]at hm;simp at hm
     |some f=>
      rw [hf]at hm
      have e:f.at σ=n.ty σ:=by simpa using hm
      rw [←e]
      exact h.new j p n.slot f hj hdone hd hf
  |none=>
   rw [hsrc]at hs ho
   refine h.old _ _ (ho σ) fun j p hj hdone hd=>?_
   have:=pi.1 hs p (ta hj)
   simp only [hd,Nat.beq_refl,oh,wS]at this
   unfold B4 at this
   obtain⟨e,he0,hb⟩:=Cy.1 this
   have he:e∈p.after:=by simpa using he0
   simp only [lH]at hb
   have h3:=h.down j p hj hdone e he hb.2
   rw [pj hb.1]at h3
   rw [h3]at hun'
   cases hun'
 clear h1 h2
 intro k t hk
 unfold wN at hk
 induction needs with
 |nil=>simp [kK,look]at hk
 |cons n needs ih=>
  simp only [yE]at hk
  unfold kK look at hk
  by_cases hb:Nat.beq n.slot k=true
  ·have hb' :Nat.beq (n.at σ).slot k=true:=hb
   rw [hb']at hk
   have:=pj hb
   subst this
   have h9:some (n.at σ).ty=some t:=by simpa using hk
   have e:n.ty σ=t:=po h9
   rw [←e]
   exact key n (iA ..)
  ·rw [zW]at hb
   have hb' :Nat.beq (n.at σ).slot k=false:=hb
   rw [hb']at hk
   exact ih (fun m hm=>key m (pS _ hm)) hk
theorem S7.step{a:Act}{w' :World}{S' :SH}{σ σ' :Nat→OI}(h:S7 E G L ts Ss es done a w S σ){p0:TS}{C:Nat→Prop}(hi:L[i]? =some o)(hdN: ∀d,o.dst=some d→d<E.N.n)(hs2: ∀d,o.dst=some d→ ∀j p,L[j]? =some p→done.getD j false=true→p.dst=some d→i=j)(hwait: ∀e∈o.after,Region.binds .any e=true→done.getD e.on false=true)(ht:ts[i]? =some p0)(hun:done.getD i true=false)(hdep: ∀k∈p0.1,k=i∨done.getD k false=true)(hext:gW C w S w' S')(hC: ∀b,C b→E.base≤b∨E.B b)(hsat:jU w' S')(hown:du E.base E.B w' S' (N2 Ss (E0 es (done.setIfInBounds i true)) σ'))(hσ: ∀k,k≠i→σ' k=σ k)(hv:(p0.at σ').p S' v):
  S7 E G L ts Ss es (done.setIfInBounds i true) (a.put o.dst v) w' S' σ' :=by
 have hlt:i<done.size:=by rw [h.dsz];exact(qW.1 hi).1
 have hset: ∀j,(done.setIfInBounds i true).getD j false=true→j=i∨done.getD j false=true:=fun j hj=>by
  by_cases hij:i=j
  ·exact .inl hij.symm
  ·rw [vw false hij]at hj;exact .inr hj
 have hseti:(done.setIfInBounds i true).getD i false=true:=by simp [hlt]
 have hun' :done.getD i false=false:=by simp [hlt]at hun ⊢;exact hun
 have hput: ∀k,(∀d,o.dst=some d→d≠k)→(a.put o.dst v).tmps.getD k undef=a.tmps.getD k undef:=fun k hk=>by
  cases hd:o.dst with
  |none=>rfl
  |some d=>
   have hda:d<a.tmps.size:=by rw [h.size];exact hdN d hd
   rw [rM hda,bM (hk d hd)]
 refine⟨h.ext.step hext hC,hsat,hown,?_,?_,by simp [h.dsz],fun j p hj hdone e he hb=>?_,fun k u hk hno=>?_,fun j p d' u hj hdone hd' hu=>?_,fun j u hj hu k hk=>?_⟩
 ·cases o.dst with
  |none=>exact h.size
  |some d=>simp [Act.put,h.size]
 ·cases o.dst with
  |none=>exact h.defers
  |some d=>exact h.defers
 ·rcases hset j hdone with rfl|hj'
  ·rw [hi]at hj
   have:o=p:=by simpa using hj
   subst this
   exact vR (hwait e he hb)
  ·exact vR (h.down j p hj hj' e he hb)
 ·rw [hput k fun d hd e=>hno i o hi hseti (by rw [hd,e])]
  exact u.mono hext.keep (h.old k u hk fun j p hj hdone=>hno j p hj (vR hdone))
 ·by_cases hij:j=i
  ·subst hij
   rw [hi]at hj
   have:o=p:=by simpa using hj
   subst this
   have hda:d' <a.tmps.size:=by rw [h.size];exact hdN d' hd'
   rw [hd',rM hda,bS rfl]
   rw [ht]at hu
   have:p0=u:=by simpa using hu
   subst this
   exact hv
  ·have hj' :=(hset j hdone).resolve_left hij
   rw [hput d' fun d hd e=>by subst e;exact hij (hs2 d hd j p hj hj' hd').symm]
   have e1:u.at σ' =u.at σ:=congrArg u.2 (HI fun k hk=>hσ k fun e=>by
     subst e
     rw [h.deps j u hj' hu k hk]at hun';cases hun')
   rw [e1]
   exact Ty.mono _ hext.keep (h.new j p d' u hj hj' hd' hu)
 ·rcases hset j hj with rfl|hj'
  ·rw [ht]at hu
   have:p0=u:=by simpa using hu
   subst this
   rcases hdep k hk with rfl|h'
   ·exact hseti
   ·exact vR h'
  ·exact vR (h.deps j u hj' hu k hk)
end
variable{Q:Exit→Act→World→Prop}{q:Rp β}
theorem HQ{l t:List Oper}(hsl:xo E.N.n [] l=true)(hlen:ts.length=l.length)(hesl:es.length=l.length)(hd:DT E G (l++t) ts Ss es 0 l es)(ht:yW (l++t) l.length t.length=true)(hQ: ∀a w S σ,St E (N2 Ss (CO es) σ) (Ix l (Qt ts σ) G) a w S→wpListIn (fw E.r) 0 E.P (l++t).toArray Q t a w):
  ∀(fuel:Nat) (done:Array Bool) (a:Act) (w:World) (S:SH) (σ:Nat→OI),mb done=fuel→(∀j,l.length≤j→done.getD j false=false)→S7 E G (l++t) ts Ss es done a w S σ→wpAnyIn (fw E.r) 0 E.P .any (l++t).toArray Q fuel done a w:=by
 have hL1: ∀i o,i<l.length→(l++t)[i]? =some o→l[i]? =some o:=fun i o hi h=>by rwa [xc hi]at h
 have hL2: ∀i o,l[i]? =some o→(l++t)[i]? =some o:=fun i o h=>by rw [xc (qW.1 h).1];exact h
 have htail: ∀m o,l.length≤m→(l++t)[m]? =some o→wE (l++t) m=true∧fD m o=true:=fun m o hm ho=>by
  have hml:m<(l++t).length:=(qW.1 ho).1
  rw [lw]at hml
  unfold yW at ht
  have:=pi.1 ht (m-l.length) (by simp;omega)
  rw [show l.length+(m-l.length)=m from by omega,ho]at this
  simp only [lH]at this
  exact⟨this.1,this.2.1⟩
 have hget:=fun i o (hi:l[i]? =some o)=>DT.get l es 0 hd i o hi
 have hedge: ∀i o,(l++t)[i]? =some o→fD i o=true:=fun i o hi=>by
  rcases lu i l.length with h|h
  ·obtain⟨_,_,_,_,_,_,_,h,_⟩:=hget i o (hL1 i o h hi)
   simpa using h
  ·exact(htail i o h hi).2
 obtain⟨hs1,hs2⟩:=B7 l [] hsl
 have fin: ∀fuel done a w S σ,mb done=fuel→(∀j,l.length≤j→done.getD j false=false)→S7 E G (l++t) ts Ss es done a w S σ→(∀i,i<l.length→done.getD i false=true)→wpAnyIn (fw E.r) 0 E.P .any (l++t).toArray Q fuel done a w:=by
  intro fuel done a w S σ hu hfree h hall
  have hdn:E0 es done=CO es:=by
   unfold E0 CO
   refine List.filter_congr fun k hk=>?_
   rw [hall k (by rw [←hesl];exact List.mem_range.1 hk),Bool.and_true]
  have hown:=h.own
  rw [hdn]at hown
  refine zn (n:=l.length) (fun m o hm ho=>(htail m o hm ho).1) hedge t l.length done fuel a w (eW _) (by simp) h.dsz (fun j hj=>⟨fun hjd=>?_,fun hlt=>hall j hlt⟩) hu
   (hQ a w S σ ⟨h.ext,h.sat,hown,h.size,h.defers,fun j u hj=>?_⟩)
  ·rcases lu j l.length with h' |h'
   ·exact h'
   ·rw [hfree j h']at hjd;cases hjd
  ·rcases FS l (Qt ts σ) j u (by unfold Qt;rw [List.length_map];exact hlen) hj with⟨i,o,h1,h2,h3⟩|⟨h1,h2⟩
   ·unfold Qt at h3
    rw [B2]at h3
    cases hf:ts[i]? with
    |none=>rw [hf]at h3;simp at h3
    |some f=>
     rw [hf]at h3
     have e:f.at σ=u:=by simpa using h3
     rw [←e]
     exact h.new i o j f (hL2 i o h1) (hall i (qW.1 h1).1) h2 hf
   ·refine h.old j u h1 fun i o ho hdn=>?_
    rcases lu i l.length with h' |h'
    ·exact h2 o (ta (hL1 i o h' ho))
    ·rw [hfree i h']at hdn;cases hdn
 have lower: ∀done a w S σ i,(∀j,l.length≤j→done.getD j false=false)→S7 E G (l++t) ts Ss es done a w S σ→i∈Region.ready .any (l++t).toArray done→l.length≤i→ ∀j,j<l.length→done.getD j false=true:=by
  intro done a w S σ i hfree h hi hge j hj
  obtain⟨hun,p,hp,hwait⟩:=tR.1 hi
  have hp' :(l++t)[i]? =some p:=by simpa using hp
  have hcov:=(htail i p hge hp').1
  unfold wE at hcov
  have hre:=pi.1 hcov j (by simp;omega)
  exact gO h.down _ i j (fun q hq e he hb=>by
   have:q=p:=by rw [hp']at hq;simpa using hq.symm
   subst this
   exact hwait e he hb) hre
 intro fuel
 induction fuel with
 |zero=>
  intro done a w S σ hu hfree h
  exact fin 0 done a w S σ hu hfree h fun i hi=>uD hu (by rw [h.dsz,lw];omega)
 |succ fuel ih=>
  intro done a w S σ hu hfree h
  by_cases hall: ∀i,i<l.length→done.getD i false=true
  ·exact fin _ done a w S σ hu hfree h hall
  have hready0: ∀m i,i<m→i<l.length→Region.ready .any (l++t).toArray done=[]→done.getD i false=true:=by
   intro m
   induction m with
   |zero=>intro i h;omega
   |succ m ihm=>
    intro i him hil hr
    have his:i<done.size:=by rw [h.dsz,lw];omega
    by_cases hdn:done.getD i true=true
    ·rw [←pc his];exact hdn
    ·exfalso
     obtain⟨o,ho⟩: ∃o,(l++t)[i]? =some o:=⟨l[i],hL2 i _ (q6 hil)⟩
     have hmem:i∈Region.ready .any (l++t).toArray done:=by
      rw [tR]
      refine⟨by simpa using hdn,o,by simpa using ho,fun e he hb=>?_⟩
      have:=hedge i o ho
      unfold fD at this
      have:=pi.1 this e (by simpa using he)
      simp only [hb,oh,wS,u9]at this
      exact ihm e.on (by omega) (by omega) hr
     rw [hr]at hmem;cases hmem
  refine⟨fun hr=>absurd (fun i hi=>hready0 (i+1) i (by omega) hi hr) hall,fun i hi=>?_⟩
  have hil:i<l.length:=by
   rcases lu i l.length with h' |h'
   ·exact h'
   ·exact absurd (lower done a w S σ i hfree h hi h') hall
  obtain⟨hun,o,ho,hwait⟩:=tR.1 hi
  have ho' :(l++t)[i]? =some o:=by simpa using ho
  have hol:=hL1 i o hil ho'
  obtain⟨e,he,needs,u,h1,h2,h3,_,h4,h5⟩:=hget i o hol
  rw [q7]at h1 h3 h4
  have hF:=h.need ho' hun hwait h2 h3
  have his:i<done.size:=by rw [h.dsz,lw];omega
  have hun' :done.getD i false=false:=by rw [←pc his];exact hun
  have hu' :mb (done.setIfInBounds i true)=fuel:=by have:=q9 hun;omega
  have huq: ∀d,o.dst=some d→ ∀j p,(l++t)[j]? =some p→done.getD j false=true→p.dst=some d→i=j:=fun d hdd j p hj hjd hpd=>by
   rcases lu j l.length with h' |h'
   ·exact hs2 i j o p d hol (hL1 j p h' hj) hdd hpd
   ·rw [hfree j h']at hjd;cases hjd
  have hfree' : ∀j,l.length≤j→(done.setIfInBounds i true).getD j false=false:=fun j hj=>by
   rw [vw false (by omega)];exact hfree j hj
  have hbl:E.base≤w.heap.size:=h.ext.size
  have hwaits: ∀q,(l++t)[i]? =some q→ ∀e∈q.after,Region.binds .any e=true→done.getD e.on false=true:=fun q hq e he hb=>by
   have:q=o:=by rw [ho']at hq;simpa using hq.symm
   subst this
   exact hwait e he hb
  have hdpp: ∀k∈u.1,k=i∨done.getD k false=true:=fun k hk=>by
   have:=pi.1 h4 k hk
   simp only [lH,xa]at this
   rcases this.2 with hb|hb
   ·exact .inl (pj hb)
   ·exact .inr (gO h.down _ i k hwaits hb)
  have hdNN: ∀d,o.dst=some d→d<E.N.n:=fun d hd=>(hs1 o (ta hol) d hd).1
  unfold wpOpIn
  rw [ho]
  show if _ then _ else _
  -- just these effects stand
  have hpos:X8 (l++t) es i (E0 es done)=false:=by
   rw [Aa]
   intro hno
   unfold X8 at hno
   rw [xa]at hno
   rcases hno with hc|hc
   ·have:=(AA.1 (HM.1 hc)).2
    rw [this]at hun';cases hun'
   ·obtain⟨k,hk1,hk2⟩:=Cy.1 hc
    have hke:es[k]? =some true:=by
     unfold CO at hk1
     rw [List.mem_filter,List.mem_range]at hk1
     have h7:=hk1.2
     rw [q6 hk1.1]at h7 ⊢
     simpa using h7
    by_cases hin:(E0 es done).contains k=true
    ·rw [bS hin,xa]at hk2
     have hkd:=(AA.1 (HM.1 hin)).2
     rcases hk2 with hb|hb
     ·have:=gO h.down _ k i (fun q hq e he hb=>h.down k q hq hkd e he hb) hb
      rw [this]at hun';cases hun'
     ·obtain⟨j,hj1,hj2⟩:=Cy.1 hb
      rw [lH,Be]at hj2
      have hje:es[j]? =some true:=by
       unfold CO at hj1
       rw [List.mem_filter,List.mem_range]at hj1
       have h7:=hj1.2
       rw [q6 hj1.1]at h7 ⊢
       simpa using h7
      have hjd:=gO h.down _ k j (fun q hq e he hb=>h.down k q hq hkd e he hb) hj2.2
      have:=HM.2 (AA.2 ⟨hje,hjd⟩)
      rw [hj2.1]at this;cases this
    ·rw [bM hin]at hk2
     have hkd:=gO h.down _ i k hwaits hk2
     exact hin (HM.2 (AA.2 ⟨hke,hkd⟩))
  have hwin: ∀aas:List (List Nat),Mx (l++t) es i aas=true→E0 es done∈aas:=by
   intro aas hw
   unfold Mx at hw
   have:=pi.1 hw _ (PQ es done)
   rw [hpos,wS]at this
   obtain⟨b,hb1,hb2⟩:=Cy.1 this
   rw [←KA hb2];exact hb1
  cases e with
  |false=>
   simp only at h5
   obtain⟨hdS,aas,hw,h5⟩:=h5
   rw [q7]at hw
   obtain⟨d,hdd⟩:=Option.isSome_iff_exists.1 hdS
   have h6:=h5.mem _ (hwin aas hw) σ a w S h.sat h.own hF
   have hdq:=Nw (done:=done) he
   by_cases hw:Region.wanted o (yielded (l++t).toArray a.tmps)=true
   ·rw [bS hw]at h6 ⊢
    refine lJ (fun a' w' ⟨v,S',ha,hx,hs,hv⟩=>?_) h6
    subst ha
    exact ih _ _ _ S' _ hu' hfree' (h.step ho' hdNN huq hwait h1 hun hdpp hx (fun _ hb=>hb.elim) hs (by rw [hdq];exact h.own.ext0 hx) (fun _ _=>rfl) hv)
   ·rw [bM hw]at h6 ⊢
    exact⟨fun _ _=>trivial,ih _ _ _ S _ hu' hfree' (h.step ho' hdNN huq hwait h1 hun hdpp (gF qq _ _) (fun _ hb=>hb.elim) h.sat (by rw [hdq];exact h.own) (fun _ _=>rfl) h6)⟩
  |true=>
   simp only [q7]at h5
   obtain⟨aas,hw,hins,h5⟩:=h5
   obtain⟨p,hp1,hp2⟩:=z7.1 (hwin _ hw)
   have hp3:=KA (pi.1 hins p hp1)
   have h6:=h5.mem p hp1 σ a w S h.sat (by rw [hp2];exact h.own) hF hbl
   have hdq:E0 es (done.setIfInBounds i true)=p.2:=by rw [Sl he his,←hp2,hp3]
   by_cases hw:Region.wanted o (yielded (l++t).toArray a.tmps)=true
   ·rw [bS hw]at h6 ⊢
    refine lJ (fun a' w' ⟨v,S',x,ha,hx,hs,hown,hv⟩=>?_) h6
    subst ha
    exact ih _ _ _ S' _ hu' hfree' (h.step ho' hdNN huq hwait h1 hun hdpp hx (fun b ⟨f,hf,hb⟩=>(du.mem h.own f (by rw [←hp2];exact hf)).2 b hb) hs (by rw [hdq];exact hown) (fun k hk=>Dp σ x hk) hv)
   ·rw [bM hw]at h6 ⊢
    obtain⟨x,hown,hv⟩:=h6
    exact⟨fun _ _=>trivial,ih _ _ _ S _ hu' hfree' (h.step ho' hdNN huq hwait h1 hun hdpp (gF qq _ _) (fun _ hb=>hb.elim) h.sat (by rw [hdq];exact hown) (fun k hk=>Dp σ x hk) hv)⟩
variable{O:List OE}
theorem yd{id:Nat}(m:Nat)(ts:List TS)(es:List Bool)(Ss:XZ)(hO: ∀σ,N2 Ss [] σ=O)(hm:E.P.follows .mixedOrders=true)(hsl:xo E.N.n [] (L.take m)=true)(hlen:ts.length=(L.take m).length)(hesl:es.length=(L.take m).length)(ht:yW L (L.take m).length (L.drop m).length=true)(hd:DT E G L ts Ss es 0 (L.take m) es)(k: ∀σ:Nat→OI,RG E L.toArray Q (L.drop m) (N2 Ss (CO es) σ) (Ix (L.take m) (Qt ts σ) G)):CG E Q (.region id L.toArray true) O G:=fun a w S st=>by
 have hL:L=L.take m++L.drop m:=(vb m L).symm
 generalize L.take m=l at hL hsl hlen hesl ht hd k
 generalize L.drop m=t at hL ht k
 subst hL
 refine wpIn_region_any hm ?_
 obtain⟨he,hs⟩:=xZ (w:=w) st.sat
 have hdn0:E0 es (Array.replicate (l++t).toArray.size false)=[]:=by
  unfold E0
  refine List.filter_eq_nil_iff.2 fun k hk=>?_
  simp [zf]
  intro _
  split<;>simp
 refine HQ hsl hlen hesl hd ht (fun a w S σ st=>k σ a w S st) _ _ _ _ S (fun _=>nz) ?_ (fun j _=>?_)
  ⟨st.ext.step0 he,hs,by rw [hdn0,hO];exact st.own.ext0 he,st.facts.size,st.facts.defers,by simp,fun j o hj hdone=>?_,fun k t hk _=>st.facts.at_ k t hk,fun j o d t hj hdone=>?_,fun j p hdone=>?_⟩
 ·unfold mb;rw [K8,KY];simp
 ·simp [zf];split<;>rfl
 ·simp [zf]at hdone
  split at hdone<;>simp at hdone
 ·simp [zf]at hdone
  split at hdone<;>simp at hdone
 ·simp [zf]at hdone
  split at hdone<;>simp at hdone

variable{base:Nat}{y:Code}
theorem du.perm{B:Nat→Prop}{O' :List OE}(h:O.Perm O'):du base B w S O→du base B w S O' :=by
 induction h with
 |nil=>exact id
 |cons x p ih=>
  rintro⟨h1,h2,h3⟩
  exact⟨h1,fun f hf=>h2 f (p.mem_iff.2 hf),ih h3⟩
 |swap x y l=>
  rintro⟨h1,h2,h3,h4,h5⟩
  refine⟨h3,fun f hf k hk hfk=>?_,h1,fun f hf=>h2 f (pS _ hf),h5⟩
  rcases jl.1 hf with rfl|hf
  ·exact h2 x (iA ..) k hfk hk
  ·exact h4 f hf k hk hfk
 |trans _ _ ih1 ih2=>exact fun k=>ih2 (ih1 k)
def uO(O:List OE):List Nat→List OE
 |[]=>[]
 |i::l=>match O[i]? with
  |some e=>e::uO O l
  |none=>uO O l
theorem Au(O:List OE): ∀a b:List Nat,uO O (a++b)=uO O a++uO O b
 |[],_=>rfl
 |i::a,b=>by
  simp only [Bd,uO]
  split<;>simp [Au O a b]
theorem J9{a b:List Nat}(h:a.Perm b):(uO O a).Perm (uO O b):=by
 induction h with
 |nil=>exact .nil
 |cons x p ih=>
  simp only [uO]
  split
  ·exact .cons _ ih
  ·exact ih
 |swap x y l=>
  simp only [uO]
  cases hx:O[x]? <;>cases hy:O[y]? <;>simp<;>exact .swap ..
 |trans _ _ ih1 ih2=>exact ih1.trans ih2
theorem Iu(O:List OE):uO O (List.range O.length)=O:=by
 have key: ∀n,n≤O.length→uO O (List.range n)=O.take n:=by
  intro n
  induction n with
  |zero=>intro _;rfl
  |succ n ih=>
   intro h
   rw [List.range_succ,Au,ih (by omega)]
   simp only [uO]
   rw [q6 (by omega),Mt (by omega)]
 rw [key _ (eW _),BZ]
theorem du.pick{B:Nat→Prop}(l:List Nat)(hl:l.isPerm (List.range O.length)=true)(h:du base B w S O):du base B w S (uO O l):=
 h.perm (by
  have:=J9 (O:=O) (List.isPerm_iff.1 hl)
  rw [Iu]at this
  exact this.symm)

variable{U:TypeId}{after:Array Edge}{cap:Nat}{dst:Option Tmp}{g:Option (Nat×Bool)}{pos:String}{xs:List α}
section
theorem yr{mm:Bool}{l:Option Nat}{o:Nat}{y:α}{j:Int}{p:Operand}(hm:m6 mm r U l cap xs∈O)(hy:dw xs j=some y)(hp:aZ E.N G p (tV (ol l o))):
  cH E O G ⟨dst,.nilCheck p,ty,pos,after,g⟩ (tV (ol l o)):=
 .of_pure fun a w S _ ho hF=>by
  have h1:a.eval p=ol l o:=hp S a hF
  obtain⟨_,hy'⟩:=lW hy
  obtain⟨b,cur,rfl,_⟩:=uc (ho.mem _ hm).1 hy'
  exact⟨ol (some b) o,by simp [execOp,h1,ol,aM],rfl⟩
end
open Go.ChangeShapes Go.WideShapes Go.ChangeAt Go.RowKit

variable{H:Type}{P:Program}{T:TypeId}{W:World}{c:Nat}{cells:List Value}{enc:TypeId×Value→H}{gs:Nat}{rest:List Oper}{z:List Value}
section
def II(W:World):SH:=fun b=>W.heap[b]?
theorem TN(W:World)(hg: ∀p∈glob,∃c T fr,W.heap[p.1]? =some (.cells c T fr)∧c.toList.take p.2.length=p.2)(ht: ∀w' :World,(∀(b:Nat) (o:Obj),W.heap[b]? =some o→ ∃o',w'.heap[b]? =some o' ∧ES o o')→MD w'):jU W (II W):=⟨fun _ o h=>⟨o,h,xG o⟩,hg,ht⟩
def yB(enc:TypeId×Value→H)(P:Program)(W:World){α:Type}(t:TypeId)(r:Rp α):Prop:=
 P.cellsOf t=r.sz∧ ∀fuel cs x,DataW.trod enc P W 0 (fun _=>true) true fuel t cs=some x→ ∃y,r.rc (II W) cs y
theorem Oh(h:P.underlying t=some .bool)(hc:P.cellsOf t=1):yB enc P W t rB:=⟨hc,fun fuel cs x hx=>by
 cases fuel with
 |zero=>simp [DataW.trod]at hx
 |succ n=>
  unfold DataW.trod at hx
  rw [h]at hx
  split at hx
  all_goals try (injections;done)
  ·exact⟨_,rfl⟩⟩
theorem vC{α β:Type}{f:α→Option β}: ∀{l:List α} {r:List β},l.mapM f=some r→r.length=l.length∧ ∀(i:Nat) (x:α),l[i]? =some x→ ∃y,r[i]? =some y∧f x=some y
 |[],r,h=>by
  simp at h
  subst h
  exact⟨rfl,fun i x hx=>by simp at hx⟩
 |a::l,r,h=>by
  rw [List.mapM_cons]at h
  cases hf:f a with
  |none=>rw [hf]at h;simp at h
  |some b=>
   rw [hf]at h
   cases hm:l.mapM f with
   |none=>rw [hm]at h;simp at h
   |some r' =>
    rw [hm]at h
    simp at h
    subst h
    obtain⟨h1,h2⟩:=vC hm
    refine⟨by simp [h1],fun i x hx=>?_⟩
    cases i with
    |zero=>simp at hx;subst hx;exact⟨b,rfl,hf⟩
    |succ i=>exact h2 i x (by simpa using hx)
theorem BK{a:Addr}(h:W.cell? a=some v):a.spot=none∧ ∃c E fr,W.heap[a.block]? =some (.cells c E fr)∧c[a.off]? =some v:=by
 unfold World.cell? at h
 cases ho:W.heap[a.block]? with
 |none=>rw [ho]at h;cases h
 |some o=>
  rw [ho]at h
  cases o with
  |cells c E fr=>
   simp only at h
   by_cases hs:a.spot.isSome=true
   ·rw [bS hs]at h;cases h
   ·rw [bM hs]at h
    exact⟨by cases hq:a.spot with
     |none=>rfl
     |some s=>rw [hq]at hs;simp at hs,c,E,fr,rfl,h⟩
  |_=>simp at h
theorem Ge(a:Addr):a.add 0=a:=by unfold Addr.add;rfl
theorem KJ{b off:Nat}{cs:List Value}(h:W.cells? 0 ⟨b,off,none⟩ n=some cs)(hn:0<n): ∃c E fr,W.heap[b]? =some (.cells c E fr)∧cs=(c.toList.drop off).take n:=by
 unfold World.cells? at h
 rw [bS (iP _)]at h
 obtain⟨h1,h2⟩:=vC h
 obtain⟨v,_,hv⟩:=h2 0 0 (by simp [hn])
 obtain⟨_,c,E,fr,h3,h4⟩:=BK hv
 refine⟨c,E,fr,by simpa [Addr.add] using h3,?_⟩
 apply Fb
 intro i
 have hl:cs.length=n:=by simpa using h1
 by_cases hi:i<n
 ·obtain⟨v,h5,h6⟩:=h2 i i (by simp [hi])
  obtain⟨_,c',E',fr',h7,h8⟩:=BK h6
  rw [jS]at h7 h8
  have h7' :W.heap[b]? =some (.cells c' E' fr'):=h7
  have h3' :W.heap[b]? =some (.cells c E fr):=by simpa [Addr.add] using h3
  rw [h3']at h7'
  injection h7' with h7'
  injection h7' with e1
  subst e1
  rw [h5,Bg hi,xb]
  simpa using h8.symm
 ·rw [HF (by omega),HF (by simp;omega)]
theorem MB{q:Rp α}{len:Nat}{a:Addr}{x:DataW H×List MemPlace}(h0' :0<q.sz)(hq:yB enc P W e q)(hx:(let elemAt (i:Nat):Option (DataW H×List MemPlace):=(W.cells? 0 (a.add (i*P.cellsOf e)) (P.cellsOf e)).bind (DataW.trod enc P W 0 (fun _=>true) true n e)
   if 0≤a.block∧len≤cap∧cap≤maxLen then
    ((List.range len).mapM elemAt).bind fun elems=>
     (if(fun _=>true) a.block then(List.range (cap-len)).mapM fun j=>elemAt (len+j)else some []).map fun rest=>
      (DataW.slice (elems.map (·.1)) (rest.map (·.1)),MemPlace.row a ((elems.length+rest.length)*P.cellsOf e)++(elems++rest).flatMap (·.2))
   else none)=some x): ∃y,(fH q).rc (II W) [.slice (some a) len cap] y:=by
 simp only at hx
 split at hx
 ·rename_i hcond
  obtain⟨_,hle,hmax⟩:=hcond
  cases hm:(List.range len).mapM (fun i=>(W.cells? 0 (a.add (i*P.cellsOf e)) (P.cellsOf e)).bind (DataW.trod enc P W 0 (fun _=>true) true n e))with
  |none=>rw [hm]at hx;simp at hx
  |some elems=>
   obtain⟨hm1,hm2⟩:=vC hm
   rw [hq.1]at hm2
   by_cases hl0:len=0
   ·subst hl0;exact⟨[],some a,cap,rfl,iP _,hmax,.inl rfl⟩
   have hsp0:a.spot=none:=by
    obtain⟨z,_,hz⟩:=hm2 0 0 (by rw [List.getElem?_range (by omega)])
    rw [Nat.zero_mul,Ge]at hz
    cases hcs:W.cells? 0 a q.sz with
    |none=>rw [hcs]at hz;simp at hz
    |some cs1=>
     unfold World.cells? at hcs
     rw [bS (iP _)]at hcs
     obtain⟨_,g2⟩:=vC hcs
     obtain⟨v,_,hv⟩:=g2 0 0 (by simp [h0'])
     rw [Ge]at hv
     exact(BK hv).1
   have hcell: ∀i,i<len→ ∃c E fr,a.spot=none∧W.heap[a.block]? =some (.cells c E fr)∧ ∃y,q.rc (II W) ((c.toList.drop (a.off+i*q.sz)).take q.sz) y:=by
    intro i hi
    obtain⟨z,_,hz⟩:=hm2 i i (by simp [hi])
    cases hcs:W.cells? 0 (a.add (i*q.sz)) q.sz with
    |none=>rw [hcs]at hz;simp at hz
    |some cs1=>
     rw [hcs]at hz
     have hsp:a.spot=none:=hsp0
     obtain⟨ab,ao,az⟩:=a
     simp only at hsp
     subst hsp
     rw [jS]at hcs
     obtain⟨c,E,fr,g1,g2⟩:=KJ hcs h0'
     obtain⟨y,hy⟩:=hq.2 n cs1 z hz
     exact⟨c,E,fr,rfl,g1,y,by rw [←g2];exact hy⟩
   obtain⟨c,E,fr,hsp,hb,_⟩:=hcell 0 (by omega)
   have key: ∀m,m≤len→ ∃ys:List α,ys.length=m∧vt q (II W) ((c.toList.drop a.off).take (m*q.sz)) ys:=by
    intro m
    induction m with
    |zero=>intro _;exact⟨[],rfl,by simp [vt]⟩
    |succ m ih=>
     intro hm'
     obtain⟨ys,hy1,hy2⟩:=ih (by omega)
     obtain⟨c',E',fr',_,hb',y,hy⟩:=hcell m (by omega)
     rw [hb]at hb'
     injection hb' with hb'
     injection hb' with e1
     subst e1
     refine⟨ys++[y],by simp [hy1],?_⟩
     have hsplit:(c.toList.drop a.off).take ((m+1)*q.sz)=(c.toList.drop a.off).take (m*q.sz)++(c.toList.drop (a.off+m*q.sz)).take q.sz:=by
      rw [w7,Nat.one_mul,List.take_add,va]
     rw [hsplit]
     exact wj hy2 (J8.2 hy)
   obtain⟨ys,hy1,hy2⟩:=key len (eW _)
   obtain⟨ab,ao,az⟩:=a
   simp only at hsp
   subst hsp
   exact⟨ys,some ⟨ab,ao,none⟩,cap,by rw [hy1],by omega,hmax,.inr ⟨ab,ao,c,E,fr,rfl,hb,by rw [hy1];exact hy2⟩⟩
 ·cases hx
theorem qc{q:Rp α}(h:P.underlying t=some (.slice e))(hc:P.cellsOf t=1)(h0:Nat.blt 0 q.sz=true)(hq:yB enc P W e q):yB enc P W t (fH q):=⟨hc,fun fuel cs x hx=>by
 have h0' :0<q.sz:=by simpa [u9] using h0
 cases fuel with
 |zero=>simp [DataW.trod]at hx
 |succ n=>
  unfold DataW.trod at hx
  rw [h]at hx
  split at hx
  all_goals try (injections;done)
  ·exact⟨[],none,0,rfl,eW _,iP _,.inl rfl⟩
  ·rename_i e' a len cap heq
   injection heq with e1
   injection e1 with e1
   subst e1
   exact MB h0' hq hx⟩
def Sz(enc:TypeId×Value→H)(P:Program)(W:World){α:Type}(off:Nat)(l:List (TypeId×Nat))(r:Rp α):Prop:=
 ∀(fuel:Nat) (cs:List Value),cs.length=off+r.sz→(∀f∈l,∃x,DataW.trod enc P W 0 (fun _=>true) true fuel f.1 ((cs.drop f.2).take (P.cellsOf f.1))=some x)→ ∃y,r.rc (II W) (cs.drop off) y
theorem pL{t off:Nat}(h:yB enc P W t r):Sz enc P W off [(t,off)] r:=fun fuel cs hl hx=>by
 obtain⟨x,hx⟩:=hx _ (List.mem_singleton_self _)
 simp only at hx
 rw [h.1,rZ (by simp;omega)]at hx
 exact h.2 _ _ _ hx
theorem fk{t off off' :Nat}(h:yB enc P W t p)(ho:off' =off+p.sz)(hr:Sz enc P W off' l q):Sz enc P W off ((t,off)::l) (cN p q):=fun fuel cs hl hx=>by
 subst ho
 obtain⟨x,hx1⟩:=hx _ (iA ..)
 simp only at hx1
 rw [h.1]at hx1
 obtain⟨y,hy⟩:=h.2 _ _ _ hx1
 obtain⟨z,hz⟩:=hr fuel cs (by rw [hl];show off+(p.sz+q.sz)=_;omega) fun f hf=>hx f (pS _ hf)
 exact⟨(y,z),_,_,by rw [←va];exact(vb _ _).symm,hy,hz⟩
theorem md{f:β→α}(ht:(P.underlying t).map (fun d=>match d with| .struct l=>(true,l.toList.map fun f=>(f.type,f.offset))|_=>(false,[]))=some (true,l))(hc:P.cellsOf t=p.sz)(hf: ∀y,∃x,f x=y)(hl:Sz enc P W 0 l p):yB enc P W t (nd p f):=⟨hc,fun fuel cs x hx=>by
 obtain⟨fs,h1,h2⟩: ∃fs,P.underlying t=some (.struct fs)∧fs.toList.map (fun f=>(f.type,f.offset))=l:=by
  cases hu:P.underlying t with
  |none=>rw [hu]at ht;cases ht
  |some d=>
   rw [hu]at ht
   cases d<;>simp at ht
   exact⟨_,rfl,ht⟩
 cases fuel with
 |zero=>simp [DataW.trod]at hx
 |succ n=>
  unfold DataW.trod at hx
  rw [h1]at hx
  change (if cs.length=P.cellsOf t then(fs.toList.mapM fun f=>DataW.trod enc P W 0 (fun _=>true) true n f.type ((cs.drop f.offset).take (P.cellsOf f.type))).map (fun xs=>(DataW.agg (xs.map (·.1)),xs.flatMap (·.2)))else none)=some x at hx
  split at hx
  ·rename_i hlen
   cases hm:fs.toList.mapM (fun f=>DataW.trod enc P W 0 (fun _=>true) true n f.type ((cs.drop f.offset).take (P.cellsOf f.type)))with
   |none=>rw [hm]at hx;simp at hx
   |some r=>
    obtain⟨_,hm2⟩:=vC hm
    obtain⟨y,hy⟩:=hl n cs (by rw [hlen,hc];omega) (fun g hg=>by
     rw [←h2,z7]at hg
     obtain⟨f0,hf0,rfl⟩:=hg
     obtain⟨i,hi⟩:=List.getElem?_of_mem hf0
     obtain⟨z,_,hz⟩:=hm2 i f0 hi
     exact⟨z,hz⟩)
    obtain⟨x',hx'⟩:=hf y
    refine⟨x',?_⟩
    show p.rc _ cs (f x')
    rw [hx']
    simpa using hy
  ·cases hx⟩
theorem Hr{W' :World}{S' :SH}(h:gW qq W S W' S'):Below W.heap.size W W' :=⟨h.os,h.tape,h.output,h.size,fun k hk=>h.heap k hk (fun h=>h)⟩
theorem yU(hl:laidOutB P=true){W W' :World}(hb:Below W.heap.size W W'){sp:Nat→Bool}: ∀{ts:List TypeId} {vs:List Value} {ds:List (DataW H)} {ps:List MemPlace},(∀t∈ts,P.readableRec t=true∧t<P.types.size)→
  DataW.TrodAll enc P W 0 (fun _=>true) true ts vs ds ps→(∀p∈ps,p.block<W.heap.size)→(∀p∈ps,sp p.block=true)→DataW.TrodAll enc P W' 0 sp true ts vs ds ps
 |[],[],[],_,_,h,_,_=>h
 |t::ts,v::vs,d::ds,_,hr,⟨p,q,h1,h2,e⟩,hlt,hsp=>by
  subst e
  have ht:=hr t (iA ..)
  exact⟨p,q,WideElems.Trod_stays hl ht.1 ht.2 h1 (fun x hx=>hb.same (hlt x (Dk _ hx))) (fun x hx=>hsp x (Dk _ hx)),
   yU hl hb (fun t ht=>hr t (pS _ ht)) h2 (fun x hx=>hlt x (KX _ hx)) (fun x hx=>hsp x (KX _ hx)),rfl⟩
theorem OV{f:Func}{s:ChangeSpec}{apart fresh handsOn again:Bool}{W' :World}{args:Array Value}{ds gs:List (DataW H)}{before:List MemPlace}{tb:TypeId}(hl:laidOutB P=true)(hr: ∀t∈f.params.toList,P.readableRec t=true∧t<P.types.size)(hvs:s.vars=[])(hres:f.resultTypes= #[tb])(htb:P.underlying tb=some .bool)(hW:DataW.Whole enc P f.params.toList s.vars apart W args.toList ds gs before)(hs:s.fn H (ds++gs)={results:=[.lit (.bool true)],args:=ds})(hb:Below W.heap.size W W'):
  s.post enc P f apart fresh handsOn again W args (.bool true) W' :=by
 have hW0:=hW
 have hlt:=hW.lt
 obtain⟨pa,pv,hA,hV,rfl,hz,hn⟩:=hW
 rw [hvs]at hV
 have hpv:pv=[]:=by
  cases gs with
  |nil=>exact hV
  |cons g gs=>exact hV.elim
 subst hpv
 have hlt' : ∀p∈pa,p.block<W.heap.size:=fun p hp=>hlt p (by simpa using hp)
 have hargs: ∀sp:Nat→Bool,(∀p∈pa,sp p.block=true)→DataW.TrodAll enc P W' 0 sp true f.params.toList args.toList ds pa:=fun sp hsp=>yU hl hb hr hA hlt' hsp
 have hresT: ∀(b:Nat) (sp:Nat→Bool) (hd:Bool),DataW.TrodAll enc P W' b sp hd f.resultTypes.toList ((Value.bool true).resultList f.resultTypes.size) [.lit (.bool true)] []:=fun b sp hd=>by
  rw [hres]
  exact⟨[],[],⟨1,by simp [DataW.trod,htb,Value.cells]⟩,rfl,rfl⟩
 have hvT: ∀sp:Nat→Bool,DataW.TrodVars enc P W' sp s.vars (s.fn H (ds++gs)).vars []:=fun sp=>by
  rw [hvs,hs];rfl
 have hargs' : ∀sp:Nat→Bool,(∀p∈pa,sp p.block=true)→DataW.TrodAll enc P W' 0 sp true f.params.toList args.toList (s.fn H (ds++gs)).args pa:=fun sp hsp=>by rw [hs];exact hargs sp hsp
 have hres' : ∀(b:Nat) (sp:Nat→Bool) (hd:Bool),DataW.TrodAll enc P W' b sp hd f.resultTypes.toList ((Value.bool true).resultList f.resultTypes.size) (s.fn H (ds++gs)).results []:=fun b sp hd=>by rw [hs];exact hresT b sp hd
 have hold: ∀p∈pa,(fun b=>decide (b<W.heap.size)) p.block=true:=fun p hp=>by simpa using hlt' p hp
 refine⟨ds,gs,pa++[],[],pa,[],hW0,hres' _ _ _,hargs' _ hold,hvT _,World.keptBut_mono (fun p hp=>⟨hp,?_⟩) (hb.frame _),fun _=>?_⟩
 ·right;simpa using hp
 ·refine⟨?_,_,_,([]++pa)++[],⟨[]++pa,[],trodAll_append (hargs' _ (fun _ _=>rfl)) (hres' _ _ _),hvT _,rfl,?_,?_⟩,?_⟩
  ·intro j t r h1 h2
   rw [hres]at h1 h2
   cases j with
   |zero=>
    simp [Value.resultList]at h1 h2
    subst h1 h2
    simp [Value.okWide,htb,Cell.okWide,Cell.ok]
   |succ j=>simp at h1
  ·intro b off hp
   have hp' :MemPlace.cell b off∈pa:=by simpa using hp
   have:=hlt' _ hp'
   rw [hb.frozen (p:=⟨b,off,none⟩) this]
   exact hz b off (by simpa using hp')
  ·intro ha
   have:=hn ha
   simpa using this
  ·intro p hp _
   simpa using hp
end

variable{agg:Bool}{ok:α→Prop}
section
def yO{α:Type}(r:Rp α)(ok:α→Prop):Rp α where
 sz:=r.sz
 agg:=r.agg
 rc:=fun S cs x=>r.rc S cs x∧ok x
 mono:=fun h k=>⟨r.mono h k.1,k.2⟩
 len:=fun k=>r.len k.1
 one:=fun k=>r.one k.1
 sc:=r.sc
def vE(k:IntKind)(n:Int):Prop:=k.min≤n∧n≤k.max
def SL(s:jb):Prop:=s.length≤maxLen
def Pb{α:Type}(ok:α→Prop)(xs:List α):Prop:=xs.length≤maxLen∧ ∀x∈xs,ok x
def Vq{α:Type}(_:α):Prop:=True
theorem Dt(h:P.underlying t=some (.int k))(hc:P.cellsOf t=1):yB enc P W t (yO (rI k) (vE k)):=⟨hc,fun fuel cs x hx=>by
 cases fuel with
 |zero=>simp [DataW.trod]at hx
 |succ n=>
  unfold DataW.trod at hx
  rw [h]at hx
  split at hx
  all_goals try (injections;done)
  ·rename_i k1 k2 m heq
   injection heq with e
   injection e with e
   subst e
   split at hx
   ·rename_i h2
    obtain⟨rfl,h3⟩:=h2
    simp only [Lit.wf,lH,q8]at h3
    exact⟨m,rfl,h3⟩
   ·cases hx⟩
theorem Og(h:P.underlying t=some .string)(hc:P.cellsOf t=1):yB enc P W t (yO rS SL):=⟨hc,fun fuel cs x hx=>by
 cases fuel with
 |zero=>simp [DataW.trod]at hx
 |succ n=>
  unfold DataW.trod at hx
  rw [h]at hx
  split at hx
  all_goals try (injections;done)
  ·rename_i s heq
   split at hx
   ·rename_i h2;exact⟨s.data.toList,rfl,(show s.data.toList.length≤maxLen from(show s.size=s.data.toList.length from rfl)▸h2)⟩
   ·cases hx⟩
theorem MC(h:P.underlying t=some .bool)(hc:P.cellsOf t=1):yB enc P W t (yO rB Vq):=
 ⟨hc,fun fuel cs x hx=>by obtain⟨y,hy⟩:=(Oh (enc:=enc) (W:=W) h hc).2 fuel cs x hx;exact⟨y,hy,trivial⟩⟩
def Gg{α:Type}(r' r:Rp α)(ok:α→Prop):Prop:=r'.sz=r.sz∧r'.agg=r.agg∧ ∀S cs x,r'.rc S cs x→r.rc S cs x∧ok x
theorem lb:Gg (yO r ok) r ok:=⟨rfl,rfl,fun _ _ _ h=>h⟩
theorem Lh{α:Type}{r' r:Rp α}{ok:α→Prop}(h:Gg r' r ok){S:SH}: ∀{xs:List α} {cs:List Value},vt r' S cs xs→vt r S cs xs∧ ∀x∈xs,ok x
 |[],_,k=>⟨k,fun x hx=>by cases hx⟩
 |x::xs,_,⟨a,b,e,h1,h2⟩=>by
  obtain⟨g1,g2⟩:=h.2.2 _ _ _ h1
  obtain⟨g3,g4⟩:=Lh h h2
  exact⟨⟨a,b,e,g1,g3⟩,fun y hy=>by
   rcases jl.1 hy with rfl|hy
   ·exact g2
   ·exact g4 y hy⟩
theorem vf{r' :Rp α}(h:Gg r' r ok):Gg (fH r') (fH r) (Pb ok):=⟨rfl,rfl,fun S cs xs ⟨a,cap,e,h1,h2,h3⟩=>by
 rcases h3 with h3|⟨b,off,c,E,fr,e1,e2,e3⟩
 ·exact⟨⟨a,cap,e,h1,h2,.inl h3⟩,by omega,fun x hx=>by rw [h3]at hx;cases hx⟩
 ·rw [h.1]at e3
  obtain⟨g1,g2⟩:=Lh h e3
  exact⟨⟨a,cap,e,h1,h2,.inr ⟨b,off,c,E,fr,e1,e2,g1⟩⟩,by omega,g2⟩⟩
theorem gx{p' :Rp α}{q' :Rp β}{f:α→Prop}{g:β→Prop}(h:Gg p' p f)(k:Gg q' q g):Gg (cN p' q') (cN p q) (fun x=>f x.1∧g x.2):=
 ⟨by show p'.sz+q'.sz=p.sz+q.sz;rw [h.1,k.1],rfl,fun S cs x ⟨a,b,e,h1,h2⟩=>⟨⟨a,b,e,(h.2.2 _ _ _ h1).1,(k.2.2 _ _ _ h2).1⟩,(h.2.2 _ _ _ h1).2,(k.2.2 _ _ _ h2).2⟩⟩
theorem rD{p' :Rp α}{f:β→α}(h:Gg p' p ok):Gg (nd p' f) (nd p f) (fun x=>ok (f x)):=
 ⟨h.1,rfl,fun S cs x k=>h.2.2 _ _ _ k⟩
theorem Mb{r' :Rp α}(h:yB enc P W t r')(hr:Gg r' r ok)(hag:r.agg=true){d:DataW H}{ps:List MemPlace}(hv:DataW.Trod enc P W 0 (fun _=>true) true t v d ps)(hc:v= .agg v.cells): ∃y,(tD r y).p (II W) v∧ok y:=by
 obtain⟨fuel,hx⟩:=hv
 obtain⟨y,hy⟩:=h.2 _ _ _ hx
 obtain⟨g1,g2⟩:=hr.2.2 _ _ _ hy
 exact⟨y,⟨_,by unfold Rp.val;rw [hag,bS rfl];exact hc,g1⟩,g2⟩
theorem AW{l:Array Field}(ht:P.underlying t=some (.struct l))(hv:Value.okWide P W .any base t v):v= .agg v.cells:=by
 unfold Value.okWide at hv
 rw [ht]at hv
 obtain⟨cs,e,_⟩:=hv
 rw [e]
 rfl
end

variable{Ds:List (DataW Unit)}
section
variable{held:Bool}
def S3(P:Program)(W:World)(held:Bool)(t:TypeId)(D:DataW Unit)(cells:List Value):Prop:=
 P.cellsOf t=cells.length∧ ∀fuel cs x,DataW.trod (fun _=>()) P W 0 (fun _=>true) held fuel t cs=some x→x.1=D→cs=cells
theorem Gz{n:Int}(h:P.underlying t=some (.int k))(hc:P.cellsOf t=1):S3 P W held t (.lit (.int k n)) [.int k n]:=⟨hc,fun fuel cs x hx hD=>by
 obtain⟨m,h1,h2,_⟩:=DataW.trod_int h hx
 subst h2
 simp only [DataW.lit.injEq,Lit.int.injEq,true_and]at hD
 rw [h1,hD]⟩
theorem fJ{s:List UInt8}(h:P.underlying t=some .string)(hc:P.cellsOf t=1):S3 P W held t (.lit (.string s)) [.string ⟨s.toArray⟩]:=⟨hc,fun fuel cs x hx hD=>by
 obtain⟨m,h1,h2,_⟩:=DataW.trod_string h hx
 subst h2
 simp only [DataW.lit.injEq,Lit.string.injEq]at hD
 subst hD
 rw [h1]⟩
def FC(P:Program)(W:World)(held:Bool)(off:Nat)(l:List (TypeId×Nat))(Ds:List (DataW Unit))(cells:List Value):Prop:=
 ∀(n:Nat) (cs:List Value),cs.length=off+cells.length→(∀(i:Nat) f,l[i]? =some f→ ∃x,DataW.trod (fun _=>()) P W 0 (fun _=>true) held n f.1 ((cs.drop f.2).take (P.cellsOf f.1))=some x∧Ds[i]? =some x.1)→cs.drop off=cells
theorem Eh{off:Nat}:FC P W held off [] [] []:=fun n cs hl _=>vc (by simp at hl;omega)
theorem eo{off off' :Nat}{D:DataW Unit}{c:List Value}(h:S3 P W held t D c)(ho:off' =off+c.length)(k:FC P W held off' l Ds cells):FC P W held off ((t,off)::l) (D::Ds) (c++cells):=fun n cs hl hx=>by
 obtain⟨x,h1,h2⟩:=hx 0 (t,off) rfl
 simp only [HG,HH]at h2
 have h3:=h.2 n _ x h1 h2.symm
 have h4:=k n cs (by rw [hl,ho,lw];omega) fun i f hf=>by simpa using hx (i+1) f (by simpa using hf)
 have e:cs.drop off=(cs.drop off).take (P.cellsOf t)++cs.drop off' :=by
  rw [ho,←h.1,←va,vb]
 rw [e,h4]
 exact congrArg (· ++cells) h3
theorem zq(ht:(P.underlying t).map (fun d=>match d with| .struct l=>(true,l.toList.map fun f=>(f.type,f.offset))|_=>(false,[]))=some (true,l))(hc:P.cellsOf t=cells.length)(hf:FC P W held 0 l Ds cells):S3 P W held t (.agg Ds) cells:=⟨hc,fun fuel cs x hx hD=>by
 obtain⟨fs,h1,h2⟩: ∃fs,P.underlying t=some (.struct fs)∧fs.toList.map (fun f=>(f.type,f.offset))=l:=by
  cases hu:P.underlying t with
  |none=>rw [hu]at ht;cases ht
  |some d=>
   rw [hu]at ht
   cases d<;>simp at ht
   exact⟨_,rfl,ht⟩
 obtain⟨xs,n,rfl,h3,h4,h5,h6⟩:=DataW.trod_struct h1 hx
 rw [h3]at hD
 simp only [DataW.agg.injEq]at hD
 have:=hf n cs (by rw [h4,hc];omega) fun i f hi=>by
  rw [←h2,B2]at hi
  obtain⟨f0,hf0,rfl⟩:=zZ.1 hi
  have h7:=h6 i f0 (by simpa using hf0)
  have hlt:i<xs.length:=by
   have:=(qW.1 hf0).1
   rw [h5];simpa using this
  rw [q6 hlt]at h7
  exact⟨xs[i],h7,by rw [←hD];simp [hlt]⟩
 rwa [sM]at this⟩
theorem Lc{m:Nat}(ht:P.underlying t=some (.array m e))(hc:P.cellsOf t=cells.length)(hf:FC P W held 0 ((List.range m).map fun i=>(e,i*P.cellsOf e)) Ds cells):S3 P W held t (.agg Ds) cells:=⟨hc,fun fuel cs x hx hD=>by
 obtain⟨xs,n,rfl,h3,h4,h5,h6⟩:=DataW.trod_array ht hx
 rw [h3]at hD
 simp only [DataW.agg.injEq]at hD
 have:=hf n cs (by rw [h4,hc];omega) fun i f hi=>by
  rw [B2]at hi
  obtain⟨j,hj,rfl⟩:=zZ.1 hi
  obtain⟨hlt,hj2⟩:=qW.1 hj
  simp at hlt hj2
  subst hj2
  have h7:=h6 i hlt
  have hlt' :i<xs.length:=by rw [h5];exact hlt
  rw [q6 hlt']at h7
  exact⟨xs[i],h7,by rw [←hD];simp [hlt']⟩
 rwa [sM]at this⟩
theorem IJ: ∀{L:List (String×DataW Unit)} {ps:List MemPlace},DataW.LaidVars P W L ps→ ∀n d,(n,d)∈L→ ∃g t cs fuel p,P.globalNamed n=some g∧(P.globals[g]?).map (·.type)=some t∧W.var? P n=some cs∧DataW.trod (fun _=>()) P W 0 (fun _=>true) false fuel t cs.toList=some (d,p)
 |(_,_)::_,_,⟨g,t,cs,fuel,p,_,h1,h2,h3,h4,_,_⟩,_,_,.head _=>⟨g,t,cs,fuel,p,h1,h2,h3,h4⟩
 |(_,_)::_,_,⟨_,_,_,_,_,_,_,_,_,_,h,_⟩,n,d,.tail _ hm=>IJ h n d hm
theorem AK{L:List (String×DataW Unit)}(h:laidMet P L W){n:String}{d:DataW Unit}(hm:(n,d)∈L){g:Nat}(hg:P.globalNamed n=some g)(ht:(P.globals[g]?).map (·.type)=some t)(hc:S3 P W false t d cells):
  ∃c T fr,W.heap[g]? =some (.cells c T fr)∧c.toList.take cells.length=cells:=by
 obtain⟨ps,hL,_,_⟩:=h
 obtain⟨g',t',cs,fuel,p,h1,h2,h3,h4⟩:=IJ hL n d hm
 obtain rfl:=po (hg.symm.trans h1)
 obtain rfl:=po (ht.symm.trans h2)
 have h5:=hc.2 fuel _ _ h4 rfl
 unfold World.var? at h3
 rw [hg]at h3
 simp only [bC]at h3
 split at h3
 ·rename_i c T fr hb
  cases h3
  exact⟨_,_,_,hb,by rw [h5,BZ]⟩
 ·cases h3
end


section
theorem hH{N:Fr}{y:α}(hag:r.agg=true)(hr: ∀S,r.rc S [v] y)(h:aZ N G x (tV (.agg #[v]))):aZ N G x (tD r y):=fun S a hf=>⟨[v],by rw [Rp.val,bS hag];exact h S a hf,hr S⟩
end

section
variable{N:Nat}{w0:World}{S0:SH}{fn:Func}{O1:List OE}{ι:Type}{t:ι→Ty}{O2:ι→List OE}
end
section
variable{c:Code}
end


theorem J{α:Sort _}{a:α}:a=a:=rfl
theorem aT:True:=trivial
abbrev cb(x:Int):Ty:=tD (rI .i64) x
abbrev gq(x:Bool):Ty:=tD rB x
abbrev jV{α:Type}(l:List α):Ty:=tD (rI .i64) (l.length:Int)
abbrev gG:Rp (List Int):=fH (rI .i64)
abbrev dI(l:List Int):Ty:=tD (fH (rI .i64)) l
abbrev fc{α:Type}(r:Rp α)(l:List α):Ty:=tD (fH r) l
abbrev oP{α:Type}(l:Option Nat)(c:Nat)(xs:List α):Ty:=tV (aV l c xs.length)
theorem bg: ∀{G' G:mz},G'.map (fun p=>look G p.1)=G'.map (fun p=>some p.2)→JV G' G
 |[],_,_=>trivial
 |(_,_)::_,_,h=>⟨(List.cons.inj h).1,bg (List.cons.inj h).2⟩

variable{bytes sz:Nat}
section
theorem cG{x:Nat}{t:Ty}(h:look G x=some t):cH E O G ⟨dst,.move (.tmp x),ty,pos,after,g⟩ t:=bQ (ht h)
theorem zm{x:Nat}{t:Ty}(h:look G x=some t):cH E O G ⟨dst,.assign (.tmp x),ty,pos,after,g⟩ t:=aU (ht h)
theorem dB{n:Int}:cH E O G ⟨dst,.assign (.const (.int k n)),ty,pos,after,g⟩ (tD (rI k) n):=aU hI
theorem ez:cH E O G ⟨dst,.assign (.const (.bool b)),ty,pos,after,g⟩ (tD rB b):=aU hB
theorem bm{x:α}{p:Nat}(ti:TI E.P U sz bytes agg z)(hp:look G p=some (bt r x))(hs:(r.sz,r.agg)=(sz,agg)):
  cH E O G ⟨dst,.load U (.tmp p),ty,pos,after,g⟩ (tD r x):=aI ti (Prod.mk.inj hs).1 (Prod.mk.inj hs).2 (ht hp)
theorem bD{get:α→β}{x:α}{off:Nat}{p:Nat}(hf:cB E.P T i=some (off,sz))(hq:m9 r off q get)(hp:look G p=some (bt r x))(h0:(!(Nat.beq sz 0)&&Nat.ble (off+q.sz) r.sz)=true):cH E O G ⟨dst,.fieldAddr T (.tmp p) i,ty,pos,after,g⟩ (bt q (get x)):=
 d6 hf (by cases h:Nat.beq sz 0<;>simp [h]at h0 ⊢) hq (by revert h0;cases Nat.ble (off+q.sz) r.sz<;>simp) (ht hp)
theorem fW{x:Nat}(hu:E.P.underlying t=some (.slice e))(hx:look G x=some (tD (fH r) xs)):
  cH E O G ⟨dst,.call ⟨.builtin .len,#[.tmp x],#[t]⟩,ty,pos,after,g⟩ (tD (rI .i64) (xs.length:Int)):=bU hu (ht hx)
theorem kG{ts:List Ty}{x:Nat}{t:Ty}(hi:ts[i]? =some t)(hx:look G x=some (tT ts)):cH E O G ⟨dst,.extract (.tmp x) i,ty,pos,after,g⟩ t:=D4 hi (ht hx)
theorem jt{v:α}{x:Nat}(hx:look G x=some (tD r v)):cH E O G ⟨dst,.box T (.tmp x),ty,pos,after,g⟩ (bt r v):=Kj (ht hx)
theorem mI{x:Nat}{q:Bool}(hc:look G c=some (tD rB b))(hx:look G x=some (qw b (tD rB q))):cH E O G ⟨dst,.pick (.tmp c) (.tmp x) (.const (.bool false)),ty,pos,after,g⟩ (tD rB (b&&q)):=km (ht hc) (fun hb=>aS hx hb)
theorem nW{x:Nat}{q:Bool}(hc:look G c=some (tD rB b))(hx:look G x=some (qw (!b) (tD rB q))):cH E O G ⟨dst,.pick (.tmp c) (.const (.bool true)) (.tmp x),ty,pos,after,g⟩ (tD rB (b||q)):=ql (ht hc) (fun hb=>aS hx (nZ hb))
variable{xt yt:TypeId}{x y:Nat}{m n:Int}
theorem ft(hx:look G x=some (tD (rI k) m))(hy:look G y=some (tD (rI k) n)):cH E O G ⟨dst,.binOp .lss xt (.tmp x) (.tmp y) yt,ty,pos,after,g⟩ (tD rB (decide (m<n))):=eO (ht hx) (ht hy)
theorem iz{j:IntKind}(hx:look G x=some (tD (rI j) m)):cH E O G ⟨dst,.binOp .eql xt (.tmp x) (.const (.int j n)) yt,ty,pos,after,g⟩ (tD rB (m==n)):=cw (ht hx) hI
theorem Gw{j:IntKind}(hx:look G x=some (tD (rI j) m)):cH E O G ⟨dst,.binOp .neq xt (.tmp x) (.const (.int j n)) yt,ty,pos,after,g⟩ (tD rB (m !=n)):=cF (ht hx) hI
theorem iQ{y:α}{x ix:Nat}{k:IntKind}{i:Int}(hu:E.P.underlying t=some (.slice e))(ti:TI E.P e sz bytes agg z)(hsz:r.sz=sz)(hx:look G x=some (tD (fH r) xs))(hi:look G ix=some (tD (rI k) i))(hy:dw xs i=some y):
  cH E O G ⟨dst,.indexAddr t (.tmp x) (.tmp ix),ty,pos,after,g⟩ (bt r y):=aQ hu ti hsz (ht hx) (ht hi) hy
theorem nh{x:Nat}{xt yt:TypeId}(hi:i<9223372036854775807)(hx:look G x=some (tD (rI .i64) (i:Int))):
  cH E O G ⟨dst,.binOp .add xt (.tmp x) (.const (.int .i64 1)) yt,ty,pos,after,g⟩ (tD (rI .i64) ((i+1:Nat):Int)):=yu hi (ht hx) hI
theorem dy{off b o:Nat}{p:Nat}(n:Nat)(hf:cB E.P T i=some (off,sz))(h0:Nat.beq sz 0=false)(hp:look G p=some (tV (aM b o)))(he:o+off=n):cH E O G ⟨dst,.fieldAddr T (.tmp p) i,ty,pos,after,g⟩ (tV (aM b n)):=mo (n:=n) hf h0 (ht hp) he
end
variable{op:Op}{ops:Array Oper}
section
variable{l:List Oper}
theorem zo{t:Ty}(hd:Nat.blt d E.N.n=true)(h:cH E O G ⟨some d,op,ty,pos,after,none⟩ t)(k:RG E ops Q l O ((d,t)::G)):
  RG E ops Q (⟨some d,op,ty,pos,after,none⟩::l) O G:=u6 h hd k
def SG(n d:Nat)(r:Option Ty):Option Ty:=if Nat.blt d n then r else none
theorem lU{r:Option Ty}{t:Ty}(h:SG n d r=some t):Nat.blt d n=true∧r=some t:=by
 unfold SG at h;split at h
 case isTrue h1=>exact⟨h1,h⟩
 case isFalse=>cases h
theorem aE{x:Nat}{t:Ty}(h:SG E.N.n d (look G x)=some t)(k:RG E ops Q l O ((d,t)::G)):
  RG E ops Q (⟨some d,.move (.tmp x),ty,pos,after,none⟩::l) O G:=u6 (bQ (ht (lU h).2)) (lU h).1 k
theorem bu{x:Nat}{t:Ty}(h:SG E.N.n d (look G x)=some t)(k:RG E ops Q l O ((d,t)::G)):
  RG E ops Q (⟨some d,.assign (.tmp x),ty,pos,after,none⟩::l) O G:=u6 (aU (ht (lU h).2)) (lU h).1 k
theorem au(h:CG E Q y O G):RG E ops (Exit.then (y.wpIn (fw E.r) 0 E.P Q) Q) [] O G:=aJ (aq h)
theorem aw{id:Nat}{l:List Oper}(h:RG E l.toArray (Exit.then (y.wpIn (fw E.r) 0 E.P Q) Q) l O G):CG E Q (.seq (.region id l.toArray false) y) O G:=ac (am h)
theorem cE{β:Type _}{X Y:Option β}{r:β}{x:Code}(h:(if b=true then X else Y)=some r)(hb:look G c=some (tD rB b))(hx:X=some r→CG E Q x O G)(hy:Y=some r→CG E Q y O G):CG E Q (.cond (.tmp c) x y) O G:=
 qT (ht hb) (fun hc=>hx (ct h hc)) (fun hc=>hy (cf h hc))
theorem dz(h:CG E Q y O G):CG E (Exit.then (y.wpIn (fw E.r) 0 E.P Q) Q) .skip O G:=bk (aq h)
theorem bX{t:Ty}(hj:(ops[j]?).bind (·.dst)=some gs)(hg:SG E.N.n gs (SG E.N.n d (look G gs))=some (tD rB b))(h:b=true→cH E O G ⟨some d,op,ty,pos,after,some (j,true)⟩ t)(k:RG E ops Q l O ((d,qw b t)::G)):RG E ops Q (⟨some d,op,ty,pos,after,some (j,true)⟩::l) O G:=Sv hj (lU hg).1 (lU (lU hg).2).2 (lU (lU hg).2).1 h k
theorem ci{t:Ty}(hj:(ops[j]?).bind (·.dst)=some gs)(hg:SG E.N.n gs (SG E.N.n d (look G gs))=some (tD rB b))(h:(!b)=true→cH E O G ⟨some d,op,ty,pos,after,some (j,false)⟩ t)(k:RG E ops Q l O ((d,qw (!b) t)::G)):RG E ops Q (⟨some d,op,ty,pos,after,some (j,false)⟩::l) O G:=Sw hj (lU hg).1 (lU (lU hg).2).2 (lU (lU hg).2).1 h k
end
theorem bz{α:Type _}{β:Type _}{x:Option α}{k:α→Option β}{r:β}{P:Prop}(h:x.bind k=some r)(f: ∀y,x=some y→k y=some r→P):P:=by
 obtain⟨y,h1,h2⟩:=bs h;exact f y h1 h2
variable{u1:Ty}
section
variable{l:List Oper}{ts:List Ty}{t:Ty}
theorem CU{a c:Bool}(h:(a&&b&&c)=true):a=true∧b=true∧c=true:=by revert h;cases a<;>cases b<;>cases c<;>simp
theorem VU{x:Option α}(h:x.isNone=true):x=none:=by cases x;rfl;cases h
theorem Vn(h:ts[i]? =some t)(hb:(fD i o&&o.guard.isNone)=true)(k:cH E O [] o t): ∃(needs:List Nd) (t:Ty),ts[i]? =some t∧uu G ts needs∧(needs.all (qx l o i))=true∧fD i o=true∧bw E O l.toArray (kK needs) o t:=
 ⟨[],t,h,trivial,rfl,(HE.1 hb).1,aa (VU (HE.1 hb).2) k⟩
theorem ef(a:Nat)(h:ts[i]? =some t)(hu:xY G ts ⟨a,u,none⟩)(hb:([(⟨a,u,none⟩:Nd)].all (qx l o i)&&fD i o&&o.guard.isNone)=true)(k:cH E O [(a,u)] o t): ∃(needs:List Nd) (t:Ty),ts[i]? =some t∧uu G ts needs∧(needs.all (qx l o i))=true∧fD i o=true∧bw E O l.toArray (kK needs) o t:=
 ⟨[(⟨a,u,none⟩:Nd)],t,h,⟨hu,trivial⟩,(CU hb).1,(CU hb).2.1,aa (VU (CU hb).2.2) k⟩
theorem cT(a:Nat)(j:Nat)(h:ts[i]? =some t)(hu:xY G ts ⟨a,u,(some j)⟩)(hb:([(⟨a,u,(some j)⟩:Nd)].all (qx l o i)&&fD i o&&o.guard.isNone)=true)(k:cH E O [(a,u)] o t): ∃(needs:List Nd) (t:Ty),ts[i]? =some t∧uu G ts needs∧(needs.all (qx l o i))=true∧fD i o=true∧bw E O l.toArray (kK needs) o t:=
 ⟨[(⟨a,u,(some j)⟩:Nd)],t,h,⟨hu,trivial⟩,(CU hb).1,(CU hb).2.1,aa (VU (CU hb).2.2) k⟩
theorem oj(a:Nat)(a1:Nat)(j1:Nat)(h:ts[i]? =some t)(hu:xY G ts ⟨a,u,none⟩)(hu1:xY G ts ⟨a1,u1,(some j1)⟩)(hb:([(⟨a,u,none⟩:Nd),⟨a1,u1,(some j1)⟩].all (qx l o i)&&fD i o)=true)(k:bw E O l.toArray [(a,u),(a1,u1)] o t): ∃(needs:List Nd) (t:Ty),ts[i]? =some t∧uu G ts needs∧(needs.all (qx l o i))=true∧fD i o=true∧bw E O l.toArray (kK needs) o t:=
 ⟨[(⟨a,u,none⟩:Nd),⟨a1,u1,(some j1)⟩],t,h,⟨hu,hu1,trivial⟩,(HE.1 hb).1,(HE.1 hb).2,k⟩
theorem dG(a:Nat)(j:Nat)(a1:Nat)(j1:Nat)(h:ts[i]? =some t)(hu:xY G ts ⟨a,u,(some j)⟩)(hu1:xY G ts ⟨a1,u1,(some j1)⟩)(hb:([(⟨a,u,(some j)⟩:Nd),⟨a1,u1,(some j1)⟩].all (qx l o i)&&fD i o&&o.guard.isNone)=true)(k:cH E O [(a,u),(a1,u1)] o t): ∃(needs:List Nd) (t:Ty),ts[i]? =some t∧uu G ts needs∧(needs.all (qx l o i))=true∧fD i o=true∧bw E O l.toArray (kK needs) o t:=
 ⟨[(⟨a,u,(some j)⟩:Nd),⟨a1,u1,(some j1)⟩],t,h,⟨hu,hu1,trivial⟩,(CU hb).1,(CU hb).2.1,aa (VU (CU hb).2.2) k⟩
theorem gj(a:Nat)(j:Nat)(a1:Nat)(j1:Nat)(h:ts[i]? =some t)(hu:xY G ts ⟨a,u,(some j)⟩)(hu1:xY G ts ⟨a1,u1,(some j1)⟩)(hb:([(⟨a,u,(some j)⟩:Nd),⟨a1,u1,(some j1)⟩].all (qx l o i)&&fD i o)=true)(k:bw E O l.toArray [(a,u),(a1,u1)] o t): ∃(needs:List Nd) (t:Ty),ts[i]? =some t∧uu G ts needs∧(needs.all (qx l o i))=true∧fD i o=true∧bw E O l.toArray (kK needs) o t:=
 ⟨[(⟨a,u,(some j)⟩:Nd),⟨a1,u1,(some j1)⟩],t,h,⟨hu,hu1,trivial⟩,(HE.1 hb).1,(HE.1 hb).2,k⟩
theorem wK(a:Nat)(j:Nat)(a1:Nat)(j1:Nat)(a2:Nat)(j2:Nat){u2:Ty}(h:ts[i]? =some t)(hu:xY G ts ⟨a,u,(some j)⟩)(hu1:xY G ts ⟨a1,u1,(some j1)⟩)(hu2:xY G ts ⟨a2,u2,(some j2)⟩)(hb:([(⟨a,u,(some j)⟩:Nd),⟨a1,u1,(some j1)⟩,⟨a2,u2,(some j2)⟩].all (qx l o i)&&fD i o&&o.guard.isNone)=true)(k:cH E O [(a,u),(a1,u1),(a2,u2)] o t): ∃(needs:List Nd) (t:Ty),ts[i]? =some t∧uu G ts needs∧(needs.all (qx l o i))=true∧fD i o=true∧bw E O l.toArray (kK needs) o t:=
 ⟨[(⟨a,u,(some j)⟩:Nd),⟨a1,u1,(some j1)⟩,⟨a2,u2,(some j2)⟩],t,h,⟨hu,hu1,hu2,trivial⟩,(CU hb).1,(CU hb).2.1,aa (VU (CU hb).2.2) k⟩
theorem sd(a:Nat)(j:Nat)(a1:Nat)(j1:Nat)(a2:Nat)(j2:Nat){u2:Ty}(h:ts[i]? =some t)(hu:xY G ts ⟨a,u,(some j)⟩)(hu1:xY G ts ⟨a1,u1,(some j1)⟩)(hu2:xY G ts ⟨a2,u2,(some j2)⟩)(hb:([(⟨a,u,(some j)⟩:Nd),⟨a1,u1,(some j1)⟩,⟨a2,u2,(some j2)⟩].all (qx l o i)&&fD i o)=true)(k:bw E O l.toArray [(a,u),(a1,u1),(a2,u2)] o t): ∃(needs:List Nd) (t:Ty),ts[i]? =some t∧uu G ts needs∧(needs.all (qx l o i))=true∧fD i o=true∧bw E O l.toArray (kK needs) o t:=
 ⟨[(⟨a,u,(some j)⟩:Nd),⟨a1,u1,(some j1)⟩,⟨a2,u2,(some j2)⟩],t,h,⟨hu,hu1,hu2,trivial⟩,(HE.1 hb).1,(HE.1 hb).2,k⟩
end

section
variable{c:Code}
theorem hBc{N:Fr}:aZ N G (.const (.bool b)) (tD rB b):=hB
theorem Qj(b:Bool){l:List Oper}(h1:b=true→RG E ops Q l O G)(h2:b=false→RG E ops Q l O G):RG E ops Q l O G:=by
 cases b with
 |true=>exact h1 rfl
 |false=>exact h2 rfl
theorem Jp{d:Option Tmp}{pol:Bool}(hj:(ops[j]?).bind (·.dst)=some gs)(hgs:Nat.blt gs E.N.n=true)(hb:look G gs=some (tD rB b))(e:b=pol)(k:RG E ops Q (⟨d,op,ty,pos,after,none⟩::rest) O G):
  RG E ops Q (⟨d,op,ty,pos,after,some (j,pol)⟩::rest) O G:=fun a w S st=>by
 have hgs' :gs<a.tmps.size:=by rw [st.facts.size];simpa [u9] using hgs
 have hw:=vW (o:=⟨d,op,ty,pos,after,some (j,pol)⟩) rfl hj hgs' (qm hb S a st.facts)
 have h1:=k a w S st
 unfold wpListIn at h1 ⊢
 rw [hw,e]
 rw [bS (show Region.wanted ⟨d,op,ty,pos,after,none⟩ (yielded ops a.tmps)=true from rfl)]at h1
 rw [bS (show(true&&(pol==pol))=true from by simp)]
 exact h1
theorem Ex{pol:Bool}(hj:(ops[j]?).bind (·.dst)=some gs)(hgs:Nat.blt gs E.N.n=true)(hb:look G gs=some (tD rB b))(e:b= !pol)(hd:Nat.blt d E.N.n=true)(k:RG E ops Q rest O ((d,Af)::G)):
  RG E ops Q (⟨some d,op,ty,pos,after,some (j,pol)⟩::rest) O G:=fun a w S st=>by
 have hgs' :gs<a.tmps.size:=by rw [st.facts.size];simpa [u9] using hgs
 have hw:=vW (o:=⟨some d,op,ty,pos,after,some (j,pol)⟩) rfl hj hgs' (qm hb S a st.facts)
 refine wpListIn_step fun K hK=>?_
 rw [hw,e,bM (by cases pol<;>simp)]
 exact⟨fun _ _=>trivial,hK _ _ (k _ _ S (st.step (gF _ _ _) st.sat hd trivial))⟩
theorem MY{c y:Operand}{t:Ty}(hc:aZ E.N G c (tD rB b))(e:b=true)(hx:aZ E.N G x t):cH E O G ⟨dst,.pick c x y,ty,pos,after,g⟩ t:=yq hc (fun _=>hx) (fun h=>by rw [e]at h;cases h)
theorem MZ{c y:Operand}{t:Ty}(hc:aZ E.N G c (tD rB b))(e:b=false)(hy:aZ E.N G y t):cH E O G ⟨dst,.pick c x y,ty,pos,after,g⟩ t:=yq hc (fun h=>by rw [e]at h;cases h) (fun _=>hy)
end

structure XU{κ:Type} [DecidableEq κ](P:Program)(kt:TypeId)(kv:κ→Value):Prop where
 chk: ∀e w k,(Instr.checkKey e 10000 kt (kv k)).run P w= .ok () w
 eql: ∀w a b,(Op.equal kt (kv a) (kv b)).run P w= .ok (decide (a=b)) w
 wide:(match P.underlying kt with|some (.array _ _)|some (.struct _)=>true|_=>false)=true
 same: ∀k,Instr.sameBits 10000 (kv k) (kv k)=true
 inj: ∀a b,kv a=kv b→a=b
def QY(p:Int×Int):Value:= .agg #[.int .i64 p.1,.int .i64 p.2]
def k2(l:List Int):Int×Int:=(l.getD 0 0,l.getD 1 0)
variable{kt:TypeId}
theorem EY{kt el:Nat}(h:P.underlying kt=some (.array 2 el))(he:P.underlying el=some (.int .i64))(ti:TI P el sz bytes agg z)(hsz:Nat.beq sz 1=true)(hq:Mr P kt (vh (rI .i64) 2)):XU P kt QY where
 chk:=fun e w k=>by
  obtain⟨i,zv,hi,hs,_⟩:=ti.get
  have h1:sz=1:=pj hsz
  have ha:(isAgg el).run P w= .ok false w:=by
   simp [isAgg,kH he,Result.andThen]
  have h3: ∀(j:Nat) (x:Int) (cs:Array Value),cs[j]? =some (.int .i64 x)→(part el cs (j*i.size)).run P w= .ok (.int .i64 x) w:=fun j x cs hj=>by
   simp [part,ha,Result.andThen,hs,h1,hj]
  have h4: ∀x:Int,(Instr.checkKey e 9999 el (.int .i64 x)).run P w= .ok () w:=fun x=>by
   show(Instr.checkKey e (9998+1) el (.int .i64 x)).run P w= .ok () w
   unfold Instr.checkKey
   simp only [qV,kH he,rY]
   rfl
  have e1:=h3 0 k.1 #[.int .i64 k.1,.int .i64 k.2] rfl
  have e2:=h3 1 k.2 #[.int .i64 k.1,.int .i64 k.2] rfl
  show(Instr.checkKey e (9999+1) kt (QY k)).run P w= .ok () w
  unfold Instr.checkKey
  simp only [QY,qV,kH h,rY,Std.Legacy.Range.forIn_eq_forIn_range',Std.Legacy.Range.size,Nat.sub_zero,Nat.add_sub_cancel,Nat.div_one,List.range'_succ,List.range'_zero,List.forIn_cons,List.forIn_nil,sizeOf,typeInfo,hi,BY,Nat.zero_mul,q7,Nat.one_mul]
  simp only [Nat.zero_mul,Nat.one_mul]at e1 e2
  simp [e1,e2,h4,Result.andThen,hi]
 eql:=fun w a b=>by
  have:=hq.run (fun _=>none) [.int .i64 a.1,.int .i64 a.2] [.int .i64 b.1,.int .i64 b.2] [a.1,a.2] [b.1,b.2] 9980 w ⟨rfl,[_],[_],rfl,rfl,[_],[],rfl,rfl,rfl⟩ ⟨rfl,[_],[_],rfl,rfl,[_],[],rfl,rfl,rfl⟩
  have e1:decide (([a.1,a.2]:List Int)=[b.1,b.2])=decide (a=b):=by
   obtain⟨a1,a2⟩:=a;obtain⟨b1,b2⟩:=b;simp
  rw [e1]at this
  show(Op.equalIn (9980+20) kt (QY a) (QY b)).run P w=_
  exact this
 wide:=by rw [h]
 same:=fun k=>by
  show Instr.sameBits (9999+1) (QY k) (QY k)=true
  unfold Instr.sameBits QY
  simp only [List.zip_cons_cons,List.zip_nil_left,w9,List.all_nil]
  unfold Instr.sameBits
  simp
 inj:=fun a b h=>by
  obtain⟨a1,a2⟩:=a;obtain⟨b1,b2⟩:=b
  simpa [QY] using h
section
variable [DecidableEq κ]{k:κ}
end
section
variable [DecidableEq κ]{b:Nat}{k:κ}{i v:Operand}{dst:Option Nat}
end

def OZ(p:Int×Int×Int):Value:= .agg #[.int .i64 p.1,.int .i64 p.2.1,.int .i64 p.2.2]
theorem VS{kt el:Nat}{l:Array Field} [DecidableEq α]{mk:Int×Int×Int→α}(h:P.underlying kt=some (.struct l))(hl:l.toList.map (fun f=>(f.type,f.offset))=[(el,0),(el,1),(el,2)])(he:P.underlying el=some (.int .i64))(ti:TI P el sz bytes agg z)(hsz:Nat.beq sz 1=true)(hag:r.agg=true)(hr: ∀p:Int×Int×Int,r.rc (fun _=>none) [.int .i64 p.1,.int .i64 p.2.1,.int .i64 p.2.2] (mk p))(hinj: ∀p q,mk p=mk q→p=q)(hq:Mr P kt r):XU P kt OZ where
 chk:=fun e w k=>by
  obtain⟨i,zv,hi,hs,_⟩:=ti.get
  have h1:sz=1:=pj hsz
  have ha:(isAgg el).run P w= .ok false w:=by
   simp [isAgg,kH he,Result.andThen]
  have h3: ∀(j:Nat) (x:Int) (cs:Array Value),cs[j]? =some (.int .i64 x)→(part el cs j).run P w= .ok (.int .i64 x) w:=fun j x cs hj=>by
   simp [part,ha,Result.andThen,hj]
  have h4: ∀x:Int,(Instr.checkKey e 9999 el (.int .i64 x)).run P w= .ok () w:=fun x=>by
   show(Instr.checkKey e (9998+1) el (.int .i64 x)).run P w= .ok () w
   unfold Instr.checkKey
   simp only [qV,kH he,rY]
   rfl
  have e1:=h3 0 k.1 #[.int .i64 k.1,.int .i64 k.2.1,.int .i64 k.2.2] rfl
  have e2:=h3 1 k.2.1 #[.int .i64 k.1,.int .i64 k.2.1,.int .i64 k.2.2] rfl
  have e3:=h3 2 k.2.2 #[.int .i64 k.1,.int .i64 k.2.1,.int .i64 k.2.2] rfl
  obtain⟨l0,rfl⟩: ∃l0:List Field,l=l0.toArray:=⟨l.toList,by simp⟩
  have hlen:l0.length=3:=by simpa using congrArg List.length hl
  obtain⟨f0,f1,f2,rfl⟩: ∃f0 f1 f2,l0=[f0,f1,f2]:=by
   match l0,hlen with
   |[a,b,c],_=>exact⟨a,b,c,rfl⟩
  simp only [yE,z6,List.cons.injEq,Prod.mk.injEq,and_true]at hl
  obtain⟨⟨a0,b0⟩,⟨a1,b1⟩,⟨a2,b2⟩⟩:=hl
  show(Instr.checkKey e (9999+1) kt (OZ k)).run P w= .ok () w
  unfold Instr.checkKey
  simp only [OZ,qV,kH h,rY]
  by_cases n0:f0.name= "_" <;>by_cases n1:f1.name= "_" <;>by_cases n2:f2.name= "_" <;>simp [n0,n1,n2,a0,a1,a2,b0,b1,b2,e1,e2,e3,h4,Result.andThen]
 eql:=fun w a b=>by
  have:=hq.run (fun _=>none) _ _ _ _ 9980 w (hr a) (hr b)
  have e1:decide (mk a=mk b)=decide (a=b):=Di.2 ⟨fun e=>hinj a b e,fun e=>by rw [e]⟩
  rw [e1]at this
  have hv: ∀p:Int×Int×Int,r.val [.int .i64 p.1,.int .i64 p.2.1,.int .i64 p.2.2]=OZ p:=fun p=>by simp [Rp.val,hag,OZ]
  rw [hv,hv]at this
  show(Op.equalIn (9980+20) kt (OZ a) (OZ b)).run P w=_
  exact this
 wide:=by rw [h]
 same:=fun k=>by
  show Instr.sameBits (9999+1) (OZ k) (OZ k)=true
  unfold Instr.sameBits OZ
  simp only [List.zip_cons_cons,List.zip_nil_left,w9,List.all_nil]
  unfold Instr.sameBits
  simp
 inj:=fun a b h=>by
  obtain⟨a1,a2,a3⟩:=a;obtain⟨b1,b2,b3⟩:=b
  simpa [OZ] using h
section
variable [DecidableEq κ]{b:Nat}{k:κ}{i v:Operand}{dst:Option Nat}
end
variable{os:Array Obj}
section
variable [DecidableEq κ]{V:MV β}{b:Nat}{os:List (Option Nat×Nat)}{h:Option κ}{dst:Option Nat}
theorem wC{ys:List α}{xs:List Operand}{parts:List (Nat×Operand)}{t:TypeId}(ht:E.P.underlying t=some (.slice T))(ti:TI E.P T sz bytes agg z)(hsz:r.sz=sz)(h0:Nat.blt 0 sz=true)(hp:parts=wP 0 xs)(hn:n=ys.length)(hb:Nat.ble (n*sz) 16777216=true)(hx:jE E.N G xs (ys.map (tD r))):
  EffOK E O G ⟨some d,.buildSlice t n parts.toArray,ty,pos,after,g⟩ (fun i=>tip r T (i.h 0).1 (i.h 0).2 ys::O) (fun i=>tO r (i.h 0).1 (i.h 0).2 ys):=fun a w S hs ho hf hbase=>by
 obtain⟨cs,hc,hr⟩:=tY ht ti hsz hn hb (hx.tys hf) w
 subst hsz
 subst hp
 have hb' :=pT hb
 have h0' :0<r.sz:=by simpa [u9] using h0
 have hnle:n≤n*r.sz:=Nat.le_mul_of_pos_right n h0'
 have hcl:=n8 hc
 obtain⟨he,hs'⟩:=qS (w:=w) (.cells cs.toArray T (0,0)) hs
 have hrun:(execOp a.eval ⟨some d,.buildSlice t n (wP 0 xs).toArray,ty,pos,after,g⟩).run E.P w= .ok (.value (.slice (some ⟨w.heap.size,0,none⟩) n n)) (w.alloc (.cells cs.toArray T (0,0))):=by
  simp only [execOp,qV,hr,rY,BY]
 refine⟨fun c h=>(by cases h),?_⟩
 rw [hrun]
 have harr:BN true r T (some w.heap.size) n ys (w.alloc (.cells cs.toArray T (0,0))) (S.set w.heap.size (.cells cs.toArray T (0,0))):=
  ⟨cs,⟨cs.toArray,Cx w _,by omega,by simp only [maxLen];omega,by simp [hcl,hn],by simp [←hcl]⟩,ss he.keep hc,fun b hb=>by rw [←po hb,bS rfl];exact oO _ _ _⟩
 refine⟨_,_,oi (some w.heap.size) n,rfl,he.more fun _ hb=>hb.elim,hs',pO ho he (e:=tip r T (some w.heap.size) n ys) harr (fun b hb=>yR (po hb)) hbase,?_,?_⟩
 ·show _=aV _ _ _
  rw [←hn];rfl
 ·have h9:=nE harr
  rw [←hn]at h9
  exact h9
end
section
variable{e:Exit}
theorem Gq{l:Option Nat}{ys:List α}{lo hi:Int}(k:Nat)(hs:fy xs lo hi=some ys)(hk:look G k=some (tV (ot r.sz l cap lo.toNat ys.length)))(h:AT E Q e (tip r U l cap xs::O) ((k,tD (fH r) ys)::G)):AT E Q e (tip r U l cap xs::O) G:=fun a w S st=>h a w S (st.viewAt hs hk)
end

section
variable [DecidableEq κ]
end
section
variable [DecidableEq κ]{b:Nat}{k:κ}{i v u:Operand}{dst:Option Nat}
end
open Go.Sort Go.Shelf

theorem AJ{k:Nat}(h:k<w.heap.size):(grow w os).heap[k]? =w.heap[k]? :=by
 unfold grow;exact Array.getElem?_append_left h
theorem IW [Inhabited α]{enc:α→Value}{b off:Nat}{d:Array α}{k:Nat}(h:k≠b):(putRow enc w b off d).heap[k]? =w.heap[k]? :=by
 unfold putRow mapBlock
 rw [Array.getElem?_modify,bM (Ne.symm h)]
theorem AI [Inhabited α]{enc:α→Value}{b off m:Nat}{d:Array α}{k:Nat}(hk:k<w.heap.size)(h:k≠b):(sortWorld enc w b off m d os).heap[k]? =w.heap[k]? :=by
 unfold sortWorld
 rw [AJ (by rw [size_putRow];exact hk),IW h];rfl
theorem G0 [Inhabited α]{enc:α→Value}{b off m:Nat}{d:Array α}{c:Array Value}{fr:Nat×Nat}(h:w.heap[b]? =some (.cells c T fr)):
  (sortWorld enc w b off m d os).heap[b]? =some (.cells (putCells enc off d c) T fr):=by
 have hlt:=(vd.1 h).1
 unfold sortWorld
 rw [AJ (by rw [size_putRow];exact hlt)]
 unfold putRow mapBlock
 rw [Array.getElem?_modify,bS rfl]
 show Option.map _ (w.heap[b]?)=_
 rw [h];rfl
theorem ER [Inhabited α]{enc:α→Value}{d:Array α}{c:Array Value}(h:d.size≤c.size):(putCells enc 0 d c).toList.take d.size=d.toList.map enc:=by
 apply Fb
 intro k
 by_cases hk:k<d.size
 ·rw [Bg hk]
  have hc:k<c.size:=by omega
  simp [putCells,hc,hk]
 ·rw [HF (by simp;omega),HF (by simp;omega)]
section
theorem Jn{m:Nat}{l:Option Nat}(hl:m=n)(s:Nat)(hs:look G s=some (tV (aV l cap n)))(k:RG E ops Q rest O ((s,tV (aV l cap m))::G)):RG E ops Q rest O G:=by
 subst hl
 exact fun a w S st=>k a w S ⟨st.ext,st.sat,st.own,⟨st.facts.size,st.facts.defers,fun j t h=>by
  unfold look at h
  by_cases hb:Nat.beq s j=true
  ·rw [hb]at h
   have:=pj hb
   subst this
   have e:tV (aV l cap m)=t:=by simpa using h
   rw [←e];exact st.facts.at_ s _ hs
  ·rw [zW]at hb
   rw [hb]at h
   exact st.facts.at_ j t h⟩⟩
end

def Vp{α:Type}(cmp:α×α→Option Int)(x y:α):Bool:=
 match cmp (x,y)with
 |some c=>decide (c<0)
 |none=>false
def VV{α:Type}(lt:α→α→Bool)(x:α):List α→List α
 |[]=>[x]
 |y::ys=>if lt y x then y::VV lt x ys else x::y::ys
def SK{α:Type}(lt:α→α→Bool):List α→List α
 |[]=>[]
 |x::xs=>VV lt x (SK lt xs)
structure Good{α:Type}(cmp:α×α→Option Int)(xs:List α):Prop where
 len:xs.length≤1099511627776
 tot: ∀x∈xs,∀y∈xs,(cmp (x,y)).isSome=true
 irr: ∀x∈xs,Vp cmp x x=false
 tr: ∀x∈xs,∀y∈xs,∀z∈xs,Vp cmp x y=true→Vp cmp y z=true→Vp cmp x z=true
 anti: ∀x∈xs,∀y∈xs,Vp cmp x y=false→Vp cmp y x=false→x=y
def sortI(xs:List Int):List Int:=xs.mergeSort fun x y=>decide (x≤y)
theorem Bm(xs:List Int):(sortI xs).length=xs.length:=by unfold sortI;simp
def Du(xs:List Int):Option (List Int):=if xs.length≤68719476736 then some (sortI xs)else none
theorem HY{xs ys:List Int}(h:Du xs=some ys):xs.length≤68719476736∧ys=sortI xs:=by
 unfold Du at h
 split at h
 ·exact⟨by assumption,by simpa using h.symm⟩
 ·cases h


theorem Lj{k:IntKind}{S:SH}: ∀{xs:List Int} {cs:List Value},vt (rI k) S cs xs→cs=xs.map (Value.int k)
 |[],cs,h=>by rw [show cs=[]from h];rfl
 |x::xs,cs,⟨a,b,e,h1,h2⟩=>by
  rw [e,show a=[.int k x]from h1,Lj h2]
  rfl
theorem Lu{k:IntKind}{S:SH}: ∀xs:List Int,vt (rI k) S (xs.map (Value.int k)) xs
 |[]=>rfl
 |x::xs=>⟨[.int k x],_,rfl,rfl,Lu xs⟩
theorem MF{ρ:Ren}(L:Lays.n189 P ρ){l:Option Nat}{xs:List Int}(hlen0:xs.length≤68719476736)(hs:jU w S)(h:(ga (rI .i64) T l cap xs).p w S):
  Calls P (ρ.f 189) #[aV l cap xs.length] w fun e w' =>e= .returned (.tuple #[])∧gW (fun k=>l=some k) w S w' S∧jU w' S∧(ga (rI .i64) T l cap (sortI xs)).p w' S:=by
 cases l with
 |none=>
  have hx:xs=[]:=vv (by obtain⟨_,h4,_⟩:=h;exact h4.1)
  subst hx
  exact(Any.slices_Sort_int_none (P:=P) (ρ:=ρ) L none 0 w).mono fun _ _ ⟨h1,h2⟩=>by subst h2;exact⟨h1,gF _ _ _,hs,by simpa [sortI] using h⟩
 |some b=>
  obtain⟨cells0,⟨cur,hb,hle,hmax,hcs,hct⟩,hrc,hno0⟩:=h
  have hno:S b=none:=hno0 b rfl
  subst hct
  have h1:(rI .i64).sz=1:=rfl
  rw [h1,Nat.mul_one]at hcs hrc
  have hcells:=Lj hrc
  have hH:Holds (Value.int .i64) w b 0 xs.toArray:=by
   intro j hj
   have hj' :j<xs.length:=by simpa using hj
   have hc:cur[j]? =some (Value.int .i64 xs.toArray[j]!):=by
    have:(cur.toList.take xs.length)[j]? =some (Value.int .i64 xs.toArray[j]!):=by
     rw [hcells,B2,getElem!_pos xs.toArray j hj]
     simp [hj']
    rw [Bg (by omega)]at this
    simpa using this
   refine⟨by simp [World.cell?,hb,hc],?_⟩
   simp [World.frozen?,hb]
  have hblk:=(vd.1 hb).1
  have hcall:=calls_of_every_depth fun D=>AnyS.slices_Sort_int_alone (P:=P) (ρ:=ρ) L D b 0 cap xs w hH hblk (by omega)
  refine hcall.mono fun e w' ⟨he,n,os,hw⟩=>?_
  have hlen:=Bm xs
  have hw2:w' =sortWorld (Value.int .i64) w b 0 n (sortI xs).toArray os:=hw
  subst hw2
  refine⟨he,⟨rfl,rfl,rfl,Nat.le_add_right _ _,?_,fun k hk hkb=>AI hk (fun e=>hkb (by rw [e])),SH.le_refl _,fun _ _ _=>rfl⟩,hs.same fun k o hk=>?_,⟨_,⟨_,G0 hb,by omega,hmax,?_,rfl⟩,?_,hno0⟩⟩
  ·unfold sortWorld;rw [size_grow,size_putRow];exact Nat.le_add_right _ _
  ·have hkb:k≠b:=fun e=>by subst e;rw [hno]at hk;cases hk
   exact AI (hs.lt hk) hkb
  ·simp [putCells,h1,hcs]
  ·have e1:(sortI xs).length*(rI .i64).sz=(sortI xs).toArray.size:=by rw [h1];simp
   rw [e1,ER (by simp;omega)]
   exact Lu (sortI xs)
section
theorem Qk{ρ:Ren}(L:Lays.n189 E.P ρ){f:FuncId}(hf:ρ.f 189=f)(hc:av E.P f=true){l:Option Nat}{xs ys:List Int}{ats:Array TypeId}(hy:Du xs=some ys)(hx:aZ E.N G x (tV (aV l cap n)))(hn:n=xs.length)(hd:Nat.blt d E.N.n=true)(k:ys.length=n→RG E ops Q rest (ga (rI .i64) T l cap ys::O) ((d,Af)::G)):RG E ops Q (⟨some d,.call ⟨.value (.func f),#[x],ats⟩,ty,pos,after,none⟩::rest) (ga (rI .i64) T l cap xs::O) G:= .of rfl fun a w S st=>by
 obtain⟨hl0,rfl⟩:=HY hy
 subst hf
 subst hn
 have h1:a.eval x=aV l cap xs.length:=hx S a st.facts
 have hr:(execOp a.eval ⟨some d,.call ⟨.value (.func (ρ.f 189)),#[x],ats⟩,ty,pos,after,none⟩).run E.P w= .ok (.enter (ρ.f 189) #[aV l cap xs.length]) w:=by
  have e0:a.eval (.func (ρ.f 189))= .func (.func (ρ.f 189)) #[] #[]:=rfl
  simp [execOp,resolve,e0,h1,Deferred.ofValue,invoke,gL hc]
 refine⟨fun c h=>(by cases h),?_⟩
 rw [hr]
 refine(MF L hl0 st.sat st.own.1.1).mono fun e w' ⟨he,hext,hsat,hp⟩=>⟨_,he,?_⟩
 have hfp: ∀g∈O,∀b,g.fp b→ ¬(l=some b):=fun g hg b hb hl=>st.own.2.1 g hg b hl hb
 refine k (Bm xs) _ _ S ⟨st.ext.step hext (fun c hc=>st.own.1.2 c hc),hsat,⟨⟨hp,st.own.1.2⟩,st.own.2.1,st.own.2.2.ext hext hfp⟩,?_⟩;exact(st.facts.mono hext.keep).put hd trivial
end
open Go.Lib

theorem qQ(hle: ∀(b:Nat) (o:Obj),W.heap[b]? =some o→ ∃o',w.heap[b]? =some o' ∧ES o o'){b:Nat}(h:W.cell? ⟨b,i,none⟩=some v):w.cell? ⟨b,i,none⟩=some v:=by
 unfold World.cell? at h ⊢
 cases hb:W.heap[b]? with
 |none=>simp [hb]at h
 |some o=>
  obtain⟨o',h1,h2⟩:=hle b o hb
  simp only [hb]at h
  simp only [h1]
  cases o with
  |cells c T fr=>
   obtain⟨l,rfl⟩:=h2
   simp only [Option.isSome_none,mA,ji]at h ⊢
   rw [←Array.getElem?_toList]at h ⊢
   rw [xc (qW.1 h).1]
   exact h
  |_=>simp at h
theorem Jy{g:Nat}{T:Array CaseRow}(hle: ∀(b:Nat) (o:Obj),W.heap[b]? =some o→ ∃o',w.heap[b]? =some o' ∧ES o o')(h:CaseVar g T W):CaseVar g T w:=by
 obtain⟨R,oR,cap,h1,h2⟩:=h
 exact⟨R,oR,cap,qQ hle h1,fun i hi=>⟨qQ hle (h2 i hi).1,qQ hle (h2 i hi).2.1,qQ hle (h2 i hi).2.2.1,qQ hle (h2 i hi).2.2.2.1,qQ hle (h2 i hi).2.2.2.2⟩⟩
theorem Hu{g3 g4:Nat}(hle: ∀(b:Nat) (o:Obj),W.heap[b]? =some o→ ∃o',w.heap[b]? =some o' ∧ES o o')(h:Utf8Tabs g3 g4 W):Utf8Tabs g3 g4 w:=
 ⟨fun c hc=>qQ hle (h.1 c hc),fun i hi=>⟨qQ hle (h.2 i hi).1,qQ hle (h.2 i hi).2⟩⟩
end Go.Proofs.YtnmjbolollcokaaGreatDoor

