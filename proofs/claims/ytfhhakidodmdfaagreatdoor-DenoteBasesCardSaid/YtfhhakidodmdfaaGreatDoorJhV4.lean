/- cX of this claim: W41, W42, W43, W21, W27, W45, W46, W47, W52, W53, W56, W57, W44, W55, W15, W29, W54. -/
import Derived.Test.YtfhhakidodmdfaaGreatDoorJhV3
import Derived.Test.YtfhhakidodmdfaaGreatDoorJhV2
import Derived.ProofKit
import Derived.OpenShut
import Derived.LaidMore
import Derived.Laws.Externs
import Derived.Shelf.SlSortCmp.NoneTotal
import Derived.Shelf.Slices.In.SortNone
import Derived.Test.YtfhhakidodmdfaaGreatDoorJhV1
import Derived.Shelf.Unicode.CaseTo
import Derived.Shelf.Unicode.DecodeSlow
set_option linter.all false
namespace Go.Proofs.YtfhhakidodmdfaaGreatDoor
open Go

def yZ(es:List Bool)(done:Array Bool):List Nat:=(List.range es.length).filter fun k=>(es[k]?).getD false&&done.getD k false
def Ik(es:List Bool)(i:Nat)(s:List Nat):List Nat:=(List.range es.length).filter fun k=>Nat.beq k i||s.contains k
def My:List Nat→List Nat→Bool
 |[],[]=>true
 |a::s,b::t=>Nat.beq a b&&My s t
 |_,_=>false
variable{b:Bool}{t:TypeId}
theorem DM: ∀{s t:List Nat},My s t=true→s=t
 |[],[],_=>rfl
 |a::s,b::t,h=>by
  simp only [My,km]at h
  rw [kp h.1,DM h.2]
 |[],_::_,h=>by cases h
 |_::_,[],h=>by cases h
def F5:List (List Nat×((Nat→OI)→List OE))→List Nat→(Nat→OI)→List OE
 |[],_,_=>[]
 |p::r,s,σ=>bif My p.1 s then p.2 σ else F5 r s σ
variable{done:Array Bool}{es:List Bool}{k:IntKind}
theorem ur{k:Nat}:k∈yZ es done↔es[k]? =some true∧done.getD k false=true:=by
 unfold yZ
 rw [List.mem_filter,List.mem_range,km]
 constructor
 ·rintro⟨h1,h2,h3⟩
  refine⟨?_,h3⟩
  rw [lK h1]at h2 ⊢
  simpa using h2
 ·rintro⟨h1,h2⟩
  exact⟨(m8.1 h1).1,by rw [h1];rfl,h2⟩
variable{i:Nat}
theorem FN(h:es[i]? =some false):yZ es (done.setIfInBounds i true)=yZ es done:=by
 unfold yZ
 refine List.filter_congr fun k hk=>?_
 by_cases hik:i=k
 ·subst hik;rw [h];rfl
 ·rw [u9 false hik]
theorem Kj(h:es[i]? =some true)(hs:i<done.size):yZ es (done.setIfInBounds i true)=Ik es i (yZ es done):=by
 unfold Ik
 conv=>lhs;unfold yZ
 refine List.filter_congr fun k hk=>?_
 by_cases hik:i=k
 ·subst hik;simp [h,hs]
 ·rw [u9 false hik]
  have hb:Nat.beq k i=false:=by
   cases hb:Nat.beq k i with
   |false=>rfl
   |true=>exact absurd (kp hb).symm hik
  rw [hb,s5,xg,Bt,ur,km]
  constructor
  ·rintro⟨h1,h2⟩
   refine⟨?_,h2⟩
   cases he:es[k]? with
   |none=>rw [he]at h1;cases h1
   |some b=>rw [he]at h1;simpa using h1
  ·rintro⟨h1,h2⟩
   exact⟨by rw [h1];rfl,h2⟩
def zc:List Nat→List (List Nat)
 |[]=>[[]]
 |k::l=>(zc l).map (k:: ·)++zc l
def wH(es:List Bool):List Nat:=(List.range es.length).filter fun k=>(es[k]?).getD false
variable{α:Type}{l:List (TypeId×Nat)}{p:Rp α}
theorem rO(p:Nat→Bool): ∀l:List Nat,l.filter p∈zc l
 |[]=>List.mem_singleton.2 rfl
 |k::l=>by
  unfold zc
  rw [y6]
  by_cases h:p k=true
  ·rw [List.filter_cons_of_pos h]
   exact .inl (List.mem_map.2 ⟨_,rO p l,rfl⟩)
  ·rw [List.filter_cons_of_neg h]
   exact .inr (rO p l)
theorem Hk(es:List Bool)(done:Array Bool):yZ es done∈zc (wH es):=by
 have:yZ es done=(wH es).filter fun k=>done.getD k false:=by
  unfold yZ wH
  rw [List.filter_filter]
  refine List.filter_congr fun k _=>Bool.and_comm ..
 rw [this]
 exact rO _ _
def Qc(L:List Oper)(es:List Bool)(i:Nat)(s:List Nat):Bool:=
 s.contains i||(wH es).any fun k=>if s.contains k then jz L L.length k i||(wH es).any fun j=> !s.contains j&&jz L L.length k j else jz L L.length i k
def Fh(L:List Oper)(es:List Bool)(i:Nat)(aas:List (List Nat)):Bool:=(zc (wH es)).all fun s=>Qc L es i s||aas.any fun a=>My a s
def CE{α:Type}(p:α→Prop):List α→Prop
 |[]=>True
 |a::l=>p a∧CE p l
theorem CE.mem{p:α→Prop}: ∀{l:List α},CE p l→ ∀a∈l,p a
 |_::_,⟨h,_⟩,_,.head _=>h
 |_::_,⟨_,h⟩,_,.tail _ hm=>CE.mem h _ hm
abbrev PV:=List (List Nat×((Nat→OI)→List OE))
def DT(E:En)(G:iO)(L:List Oper)(ts:List TS)(Ss:PV)(es0:List Bool):Nat→List Oper→List Bool→Prop
 |_,[],_=>True
 |i,o::rest,false::es=>(∃(needs:List NS) (t:TS) (aas:List (List Nat)),ts[i]? =some t∧qT G ts needs∧(needs.all fun n=>ld L o i (n.at fun _=>kY))=true∧dF i o=true∧FO L es0 i t=true∧Fh L es0 i aas=true∧o.dst.isSome=true∧
   CE (fun s=> ∀σ,bJ E (F5 Ss s σ) L.toArray (qM needs σ) o (t.at σ)) aas)∧DT E G L ts Ss es0 (i+1) rest es
 |i,o::rest,true::es=>(∃(needs:List NS) (t:TS) (aas:List (List Nat×List Nat)),ts[i]? =some t∧qT G ts needs∧(needs.all fun n=>ld L o i (n.at fun _=>kY))=true∧dF i o=true∧FO L es0 i t=true∧Fh L es0 i (aas.map (·.1))=true∧(aas.all fun p=>My (Ik es0 i p.1) p.2)=true∧
   CE (fun p:List Nat×List Nat=> ∀σ,mQ E L.toArray (F5 Ss p.1 σ) (qM needs σ) o (fun x=>F5 Ss p.2 (CX σ i x)) (fun x=>t.at (CX σ i x))) aas)∧DT E G L ts Ss es0 (i+1) rest es
 |_,_::_,[]=>False
variable{E:En}{G:iO}{L:List Oper}{Ss:PV}{e:TypeId}{n:Nat}{o:Oper}{r:Rp α}{ts:List TS}
theorem DT.get{es0:List Bool}: ∀(r:List Oper) (es:List Bool) (k:Nat),DT E G L ts Ss es0 k r es→ ∀(j:Nat) (o:Oper),r[j]? =some o→
    ∃e,es[j]? =some e∧ ∃(needs:List NS) (t:TS),ts[k+j]? =some t∧qT G ts needs∧(needs.all fun n=>ld L o (k+j) (n.at fun _=>kY))=true∧dF (k+j) o=true∧FO L es0 (k+j) t=true∧
      (match e with
       |false=>o.dst.isSome=true∧ ∃aas,Fh L es0 (k+j) aas=true∧CE (fun s=> ∀σ,bJ E (F5 Ss s σ) L.toArray (qM needs σ) o (t.at σ)) aas
       |true=> ∃aas:List (List Nat×List Nat),Fh L es0 (k+j) (aas.map (·.1))=true∧(aas.all fun p=>My (Ik es0 (k+j) p.1) p.2)=true∧CE (fun p:List Nat×List Nat=> ∀σ,mQ E L.toArray (F5 Ss p.1 σ) (qM needs σ) o (fun x=>F5 Ss p.2 (CX σ (k+j) x)) (fun x=>t.at (CX σ (k+j) x))) aas):=by
  intro r
  induction r with
  |nil=>intro es k _ j o h;simp at h
  |cons p r ih=>
    intro es k h j o ho
    cases es with
    |nil=>exact h.elim
    |cons e es=>
      cases e with
      |false=>
        obtain⟨⟨needs,t,aas,g1,g2,g3,g4,g5,g6,g7,g8⟩,h2⟩:=h
        cases j with
        |zero=>
          simp at ho;subst ho
          exact⟨false,rfl,needs,t,g1,g2,g3,g4,g5,g7,aas,g6,g8⟩
        |succ j=>
          obtain⟨e',g1,g2⟩:=ih es (k+1) h2 j o (by simpa using ho)
          refine⟨e',by simpa using g1,?_⟩
          rw [show k+1+j=k+(j+1)from by omega]at g2
          exact g2
      |true=>
        obtain⟨⟨needs,t,aas,g1,g2,g3,g4,g5,g6,g7,g8⟩,h2⟩:=h
        cases j with
        |zero=>
          simp at ho;subst ho
          exact⟨true,rfl,needs,t,g1,g2,g3,g4,g5,aas,g6,g7,g8⟩
        |succ j=>
          obtain⟨e',g1,g2⟩:=ih es (k+1) h2 j o (by simpa using ho)
          refine⟨e',by simpa using g1,?_⟩
          rw [show k+1+j=k+(j+1)from by omega]at g2
          exact g2
structure Lc(E:En)(G:iO)(l:List Oper)(ts:List TS)(Ss:PV)(es:List Bool)(done:Array Bool)(a:Act)(w:World)(S:SH)(σ:Nat→OI):Prop where
 ext:d6 E.B E.w0 E.S0 w S
 sat:ft w S
 own:cj E.base E.B w S (F5 Ss (yZ es done) σ)
 size:a.tmps.size=E.N.n
 defers:a.defers=E.N.ds
 dsz:done.size=l.length
 down: ∀j o,l[j]? =some o→done.getD j false=true→ ∀e∈o.after,Region.binds .any e=true→done.getD e.on false=true
 old: ∀k t,look G k=some t→(∀j o,l[j]? =some o→done.getD j false=true→o.dst≠some k)→t.p S (a.tmps.getD k undef)
 new: ∀j o d p,l[j]? =some o→done.getD j false=true→o.dst=some d→ts[j]? =some p→(p.at σ).p S (a.tmps.getD d undef)
 deps: ∀j p,done.getD j false=true→ts[j]? =some p→ ∀k∈p.1,done.getD k false=true
variable{S S' :SH}{d:Nat}{f:FuncId}{ty:TypeId}{u:Ty}{w:World}
section
theorem Lc.need{a:Act}{σ:Nat→OI}(h:Lc E G L ts Ss es done a w S σ)(hi:L[i]? =some o)(hun:done.getD i true=false)(hwait: ∀e∈o.after,Region.binds .any e=true→done.getD e.on false=true){needs:List NS}(h1:qT G ts needs)(h2:(needs.all fun n=>ld L o i (n.at fun _=>kY))=true):cX E.N S a (qM needs σ):=by
 have hlt:i<done.size:=by rw [h.dsz];exact(m8.1 hi).1
 have hun' :done.getD i false=false:=by
  simp [hlt]at hun ⊢;exact hun
 refine⟨h.size,h.defers,?_⟩
 have key: ∀n∈needs,(n.ty σ).p S (a.tmps.getD n.slot undef):=by
  intro n hn
  have hs:=kH.1 h2 n hn
  have ho:=h1.mem n hn
  unfold ld NS.at at hs
  unfold Ku at ho
  cases hsrc:n.src with
  |some j=>
   rw [hsrc]at hs ho
   simp only [km]at hs
   obtain⟨hs1,hs2⟩:=hs
   cases hj:L[j]? with
   |none=>rw [hj]at hs1;cases hs1
   |some p=>
    rw [hj]at hs1
    cases hd:p.dst with
    |none=>simp only [hd]at hs1;cases hs1
    |some d=>
     simp only [hd]at hs1
     have hd' :=kp hs1
     subst hd'
     have hdone:done.getD j false=true:=by
      unfold vR at hs2
      obtain⟨e,he0,hb⟩:=xb.1 hs2
      have he:e∈o.after:=by simpa using he0
      simp only [km]at hb
      have:=hwait e he hb.2
      rwa [kp hb.1]at this
     have hm:=ho σ
     cases hf:ts[j]? with
     |none=>rw [hf]at hm;simp at hm
     |some f=>
      rw [hf]at hm
      have e:f.at σ=n.ty σ:=by simpa using hm
      rw [←e]
      exact h.new j p n.slot f hj hdone hd hf
  |none=>
   rw [hsrc]at hs ho
   refine h.old _ _ (ho σ) fun j p hj hdone hd=>?_
   have:=kH.1 hs p (q9 hj)
   simp only [hd,Nat.beq_refl,va,s5]at this
   unfold vR at this
   obtain⟨e,he0,hb⟩:=xb.1 this
   have he:e∈p.after:=by simpa using he0
   simp only [km]at hb
   have h3:=h.down j p hj hdone e he hb.2
   rw [kp hb.1]at h3
   rw [h3]at hun'
   cases hun'
 clear h1 h2
 intro k t hk
 unfold qM at hk
 induction needs with
 |nil=>simp [gj,look]at hk
 |cons n needs ih=>
  simp only [wu]at hk
  unfold gj look at hk
  by_cases hb:Nat.beq n.slot k=true
  ·have hb' :Nat.beq (n.at σ).slot k=true:=hb
   rw [hb']at hk
   have:=kp hb
   subst this
   have h9:some (n.at σ).ty=some t:=by simpa using hk
   have e:n.ty σ=t:=kX h9
   rw [←e]
   exact key n (gV ..)
  ·rw [tX]at hb
   have hb' :Nat.beq (n.at σ).slot k=false:=hb
   rw [hb']at hk
   exact ih (fun m hm=>key m (mS _ hm)) hk
theorem Lc.step{a:Act}{w' :World}{σ σ' :Nat→OI}(h:Lc E G L ts Ss es done a w S σ){p0:TS}{v:Value}{C:Nat→Prop}(hi:L[i]? =some o)(hdN: ∀d,o.dst=some d→d<E.N.n)(hs2: ∀d,o.dst=some d→ ∀j p,L[j]? =some p→done.getD j false=true→p.dst=some d→i=j)(hwait: ∀e∈o.after,Region.binds .any e=true→done.getD e.on false=true)(ht:ts[i]? =some p0)(hun:done.getD i true=false)(hdep: ∀k∈p0.1,k=i∨done.getD k false=true)(hext:d6 C w S w' S')(hC: ∀b,C b→E.base≤b∨E.B b)(hsat:ft w' S')(hown:cj E.base E.B w' S' (F5 Ss (yZ es (done.setIfInBounds i true)) σ'))(hσ: ∀k,k≠i→σ' k=σ k)(hv:(p0.at σ').p S' v):
  Lc E G L ts Ss es (done.setIfInBounds i true) (a.put o.dst v) w' S' σ' :=by
 have hlt:i<done.size:=by rw [h.dsz];exact(m8.1 hi).1
 have hset: ∀j,(done.setIfInBounds i true).getD j false=true→j=i∨done.getD j false=true:=fun j hj=>by
  by_cases hij:i=j
  ·exact .inl hij.symm
  ·rw [u9 false hij]at hj;exact .inr hj
 have hseti:(done.setIfInBounds i true).getD i false=true:=by simp [hlt]
 have hun' :done.getD i false=false:=by simp [hlt]at hun ⊢;exact hun
 have hput: ∀k,(∀d,o.dst=some d→d≠k)→(a.put o.dst v).tmps.getD k undef=a.tmps.getD k undef:=fun k hk=>by
  cases hd:o.dst with
  |none=>rfl
  |some d=>
   have hda:d<a.tmps.size:=by rw [h.size];exact hdN d hd
   rw [mu hda,cZ (hk d hd)]
 refine⟨h.ext.step hext hC,hsat,hown,?_,?_,by simp [h.dsz],fun j p hj hdone e he hb=>?_,fun k u hk hno=>?_,fun j p d' u hj hdone hd' hu=>?_,fun j u hj hu k hk=>?_⟩
 ·cases o.dst with
  |none=>exact h.size
  |some d=>simp [Act.put,h.size]
 ·cases o.dst with
  |none=>exact h.defers
  |some d=>exact h.defers
 ·rcases hset j hdone with rfl|hj'
  ·rw [hi]at hj
   have:o=p:=by simpa using hj
   subst this
   exact pU (hwait e he hb)
  ·exact pU (h.down j p hj hj' e he hb)
 ·rw [hput k fun d hd e=>hno i o hi hseti (by rw [hd,e])]
  exact u.mono hext.keep (h.old k u hk fun j p hj hdone=>hno j p hj (pU hdone))
 ·by_cases hij:j=i
  ·subst hij
   rw [hi]at hj
   have:o=p:=by simpa using hj
   subst this
   have hda:d' <a.tmps.size:=by rw [h.size];exact hdN d' hd'
   rw [hd',mu hda,c9 rfl]
   rw [ht]at hu
   have:p0=u:=by simpa using hu
   subst this
   exact hv
  ·have hj' :=(hset j hdone).resolve_left hij
   rw [hput d' fun d hd e=>by subst e;exact hij (hs2 d hd j p hj hj' hd').symm]
   have e1:u.at σ' =u.at σ:=congrArg u.2 (List.map_congr_left fun k hk=>hσ k fun e=>by
     subst e
     rw [h.deps j u hj' hu k hk]at hun';cases hun')
   rw [e1]
   exact Ty.mono _ hext.keep (h.new j p d' u hj hj' hd' hu)
 ·rcases hset j hj with rfl|hj'
  ·rw [ht]at hu
   have:p0=u:=by simpa using hu
   subst this
   rcases hdep k hk with rfl|h'
   ·exact hseti
   ·exact pU h'
  ·exact pU (h.deps j u hj' hu k hk)
end
variable{Q:Exit→Act→World→Prop}{β:Type}{q:Rp β}
theorem Bx{l t:List Oper}(hsl:rl E.N.n [] l=true)(hlen:ts.length=l.length)(hesl:es.length=l.length)(hd:DT E G (l++t) ts Ss es 0 l es)(ht:sR (l++t) l.length t.length=true)(hQ: ∀a w S σ,St E (F5 Ss (wH es) σ) (BV l (HR ts σ) G) a w S→wpListIn (fw E.r) 0 E.P (l++t).toArray Q t a w):
  ∀(fuel:Nat) (done:Array Bool) (a:Act) (w:World) (S:SH) (σ:Nat→OI),ic done=fuel→(∀j,l.length≤j→done.getD j false=false)→Lc E G (l++t) ts Ss es done a w S σ→wpAnyIn (fw E.r) 0 E.P .any (l++t).toArray Q fuel done a w:=by
 have hL1: ∀i o,i<l.length→(l++t)[i]? =some o→l[i]? =some o:=fun i o hi h=>by rwa [yF hi]at h
 have hL2: ∀i o,l[i]? =some o→(l++t)[i]? =some o:=fun i o h=>by rw [yF (m8.1 h).1];exact h
 have htail: ∀m o,l.length≤m→(l++t)[m]? =some o→qA (l++t) m=true∧dF m o=true:=fun m o hm ho=>by
  have hml:m<(l++t).length:=(m8.1 ho).1
  rw [lJ]at hml
  unfold sR at ht
  have:=kH.1 ht (m-l.length) (by simp;omega)
  rw [show l.length+(m-l.length)=m from by omega,ho]at this
  simp only [km]at this
  exact⟨this.1,this.2.1⟩
 have hget:=fun i o (hi:l[i]? =some o)=>DT.get l es 0 hd i o hi
 have hedge: ∀i o,(l++t)[i]? =some o→dF i o=true:=fun i o hi=>by
  rcases kF i l.length with h|h
  ·obtain⟨_,_,_,_,_,_,_,h,_⟩:=hget i o (hL1 i o h hi)
   simpa using h
  ·exact(htail i o h hi).2
 obtain⟨hs1,hs2⟩:=vW l [] hsl
 have fin: ∀fuel done a w S σ,ic done=fuel→(∀j,l.length≤j→done.getD j false=false)→Lc E G (l++t) ts Ss es done a w S σ→(∀i,i<l.length→done.getD i false=true)→wpAnyIn (fw E.r) 0 E.P .any (l++t).toArray Q fuel done a w:=by
  intro fuel done a w S σ hu hfree h hall
  have hdn:yZ es done=wH es:=by
   unfold yZ wH
   refine List.filter_congr fun k hk=>?_
   rw [hall k (by rw [←hesl];exact List.mem_range.1 hk),Bool.and_true]
  have hown:=h.own
  rw [hdn]at hown
  refine s8 (n:=l.length) (fun m o hm ho=>(htail m o hm ho).1) hedge t l.length done fuel a w (ia _) (by simp) h.dsz (fun j hj=>⟨fun hjd=>?_,fun hlt=>hall j hlt⟩) hu
   (hQ a w S σ ⟨h.ext,h.sat,hown,h.size,h.defers,fun j u hj=>?_⟩)
  ·rcases kF j l.length with h' |h'
   ·exact h'
   ·rw [hfree j h']at hjd;cases hjd
  ·rcases zu l (HR ts σ) j u (by unfold HR;rw [List.length_map];exact hlen) hj with⟨i,o,h1,h2,h3⟩|⟨h1,h2⟩
   ·unfold HR at h3
    rw [CO]at h3
    cases hf:ts[i]? with
    |none=>rw [hf]at h3;simp at h3
    |some f=>
     rw [hf]at h3
     have e:f.at σ=u:=by simpa using h3
     rw [←e]
     exact h.new i o j f (hL2 i o h1) (hall i (m8.1 h1).1) h2 hf
   ·refine h.old j u h1 fun i o ho hdn=>?_
    rcases kF i l.length with h' |h'
    ·exact h2 o (q9 (hL1 i o h' ho))
    ·rw [hfree i h']at hdn;cases hdn
 have lower: ∀done a w S σ i,(∀j,l.length≤j→done.getD j false=false)→Lc E G (l++t) ts Ss es done a w S σ→i∈Region.ready .any (l++t).toArray done→l.length≤i→ ∀j,j<l.length→done.getD j false=true:=by
  intro done a w S σ i hfree h hi hge j hj
  obtain⟨hun,p,hp,hwait⟩:=s4.1 hi
  have hp' :(l++t)[i]? =some p:=by simpa using hp
  have hcov:=(htail i p hge hp').1
  unfold qA at hcov
  have hre:=kH.1 hcov j (by simp;omega)
  exact ek h.down _ i j (fun q hq e he hb=>by
   have:q=p:=by rw [hp']at hq;simpa using hq.symm
   subst this
   exact hwait e he hb) hre
 intro fuel
 induction fuel with
 |zero=>
  intro done a w S σ hu hfree h
  exact fin 0 done a w S σ hu hfree h fun i hi=>oP hu (by rw [h.dsz,lJ];omega)
 |succ fuel ih=>
  intro done a w S σ hu hfree h
  by_cases hall: ∀i,i<l.length→done.getD i false=true
  ·exact fin _ done a w S σ hu hfree h hall
  have hready0: ∀m i,i<m→i<l.length→Region.ready .any (l++t).toArray done=[]→done.getD i false=true:=by
   intro m
   induction m with
   |zero=>intro i h;omega
   |succ m ihm=>
    intro i him hil hr
    have his:i<done.size:=by rw [h.dsz,lJ];omega
    by_cases hdn:done.getD i true=true
    ·rw [←j8 his];exact hdn
    ·exfalso
     obtain⟨o,ho⟩: ∃o,(l++t)[i]? =some o:=⟨l[i],hL2 i _ (lK hil)⟩
     have hmem:i∈Region.ready .any (l++t).toArray done:=by
      rw [s4]
      refine⟨by simpa using hdn,o,by simpa using ho,fun e he hb=>?_⟩
      have:=hedge i o ho
      unfold dF at this
      have:=kH.1 this e (by simpa using he)
      simp only [hb,va,s5,qW]at this
      exact ihm e.on (by omega) (by omega) hr
     rw [hr]at hmem;cases hmem
  refine⟨fun hr=>absurd (fun i hi=>hready0 (i+1) i (by omega) hi hr) hall,fun i hi=>?_⟩
  have hil:i<l.length:=by
   rcases kF i l.length with h' |h'
   ·exact h'
   ·exact absurd (lower done a w S σ i hfree h hi h') hall
  obtain⟨hun,o,ho,hwait⟩:=s4.1 hi
  have ho' :(l++t)[i]? =some o:=by simpa using ho
  have hol:=hL1 i o hil ho'
  obtain⟨e,he,needs,u,h1,h2,h3,_,h4,h5⟩:=hget i o hol
  rw [sH]at h1 h3 h4
  have hF:=h.need ho' hun hwait h2 h3
  have his:i<done.size:=by rw [h.dsz,lJ];omega
  have hun' :done.getD i false=false:=by rw [←j8 his];exact hun
  have hu' :ic (done.setIfInBounds i true)=fuel:=by have:=lL hun;omega
  have huq: ∀d,o.dst=some d→ ∀j p,(l++t)[j]? =some p→done.getD j false=true→p.dst=some d→i=j:=fun d hdd j p hj hjd hpd=>by
   rcases kF j l.length with h' |h'
   ·exact hs2 i j o p d hol (hL1 j p h' hj) hdd hpd
   ·rw [hfree j h']at hjd;cases hjd
  have hfree' : ∀j,l.length≤j→(done.setIfInBounds i true).getD j false=false:=fun j hj=>by
   rw [u9 false (by omega)];exact hfree j hj
  have hbl:E.base≤w.heap.size:=h.ext.size
  have hwaits: ∀q,(l++t)[i]? =some q→ ∀e∈q.after,Region.binds .any e=true→done.getD e.on false=true:=fun q hq e he hb=>by
   have:q=o:=by rw [ho']at hq;simpa using hq.symm
   subst this
   exact hwait e he hb
  have hdpp: ∀k∈u.1,k=i∨done.getD k false=true:=fun k hk=>by
   have:=kH.1 h4 k hk
   simp only [km,Ac]at this
   rcases this.2 with hb|hb
   ·exact .inl (kp hb)
   ·exact .inr (ek h.down _ i k hwaits hb)
  have hdNN: ∀d,o.dst=some d→d<E.N.n:=fun d hd=>(hs1 o (q9 hol) d hd).1
  unfold wpOpIn
  rw [ho]
  show if _ then _ else _
  -- just these effects stand
  have hpos:Qc (l++t) es i (yZ es done)=false:=by
   rw [Bool.eq_false_iff]
   intro hno
   unfold Qc at hno
   rw [Ac]at hno
   rcases hno with hc|hc
   ·have:=(ur.1 (Bt.1 hc)).2
    rw [this]at hun';cases hun'
   ·obtain⟨k,hk1,hk2⟩:=xb.1 hc
    have hke:es[k]? =some true:=by
     unfold wH at hk1
     rw [List.mem_filter,List.mem_range]at hk1
     have h7:=hk1.2
     rw [lK hk1.1]at h7 ⊢
     simpa using h7
    by_cases hin:(yZ es done).contains k=true
    ·rw [c9 hin,Ac]at hk2
     have hkd:=(ur.1 (Bt.1 hin)).2
     rcases hk2 with hb|hb
     ·have:=ek h.down _ k i (fun q hq e he hb=>h.down k q hq hkd e he hb) hb
      rw [this]at hun';cases hun'
     ·obtain⟨j,hj1,hj2⟩:=xb.1 hb
      rw [km,yD]at hj2
      have hje:es[j]? =some true:=by
       unfold wH at hj1
       rw [List.mem_filter,List.mem_range]at hj1
       have h7:=hj1.2
       rw [lK hj1.1]at h7 ⊢
       simpa using h7
      have hjd:=ek h.down _ k j (fun q hq e he hb=>h.down k q hq hkd e he hb) hj2.2
      have:=Bt.2 (ur.2 ⟨hje,hjd⟩)
      rw [hj2.1]at this;cases this
    ·rw [cZ hin]at hk2
     have hkd:=ek h.down _ i k hwaits hk2
     exact hin (Bt.2 (ur.2 ⟨hke,hkd⟩))
  have hwin: ∀aas:List (List Nat),Fh (l++t) es i aas=true→yZ es done∈aas:=by
   intro aas hw
   unfold Fh at hw
   have:=kH.1 hw _ (Hk es done)
   rw [hpos,s5]at this
   obtain⟨b,hb1,hb2⟩:=xb.1 this
   rw [←DM hb2];exact hb1
  cases e with
  |false=>
   simp only at h5
   obtain⟨hdS,aas,hw,h5⟩:=h5
   rw [sH]at hw
   obtain⟨d,hdd⟩:=Option.isSome_iff_exists.1 hdS
   have h6:=h5.mem _ (hwin aas hw) σ a w S h.sat h.own hF
   have hdq:=FN (done:=done) he
   by_cases hw:Region.wanted o (yielded (l++t).toArray a.tmps)=true
   ·rw [c9 hw]at h6 ⊢
    refine gW (fun a' w' ⟨v,S',ha,hx,hs,hv⟩=>?_) h6
    subst ha
    exact ih _ _ _ S' _ hu' hfree' (h.step ho' hdNN huq hwait h1 hun hdpp hx (fun _ hb=>hb.elim) hs (by rw [hdq];exact h.own.ext0 hx) (fun _ _=>rfl) hv)
   ·rw [cZ hw]at h6 ⊢
    exact⟨fun _ _=>trivial,ih _ _ _ S _ hu' hfree' (h.step ho' hdNN huq hwait h1 hun hdpp (d6.refl kV _ _) (fun _ hb=>hb.elim) h.sat (by rw [hdq];exact h.own) (fun _ _=>rfl) h6)⟩
  |true=>
   simp only [sH]at h5
   obtain⟨aas,hw,hins,h5⟩:=h5
   obtain⟨p,hp1,hp2⟩:=List.mem_map.1 (hwin _ hw)
   have hp3:=DM (kH.1 hins p hp1)
   have h6:=h5.mem p hp1 σ a w S h.sat (by rw [hp2];exact h.own) hF hbl
   have hdq:yZ es (done.setIfInBounds i true)=p.2:=by rw [Kj he his,←hp2,hp3]
   by_cases hw:Region.wanted o (yielded (l++t).toArray a.tmps)=true
   ·rw [c9 hw]at h6 ⊢
    refine gW (fun a' w' ⟨v,S',x,ha,hx,hs,hown,hv⟩=>?_) h6
    subst ha
    exact ih _ _ _ S' _ hu' hfree' (h.step ho' hdNN huq hwait h1 hun hdpp hx (fun b ⟨f,hf,hb⟩=>(cj.mem h.own f (by rw [←hp2];exact hf)).2 b hb) hs (by rw [hdq];exact hown) (fun k hk=>xo σ x hk) hv)
   ·rw [cZ hw]at h6 ⊢
    obtain⟨x,hown,hv⟩:=h6
    exact⟨fun _ _=>trivial,ih _ _ _ S _ hu' hfree' (h.step ho' hdNN huq hwait h1 hun hdpp (d6.refl kV _ _) (fun _ hb=>hb.elim) h.sat (by rw [hdq];exact hown) (fun k hk=>xo σ x hk) hv)⟩
variable{O:List OE}
theorem HN{id:Nat}(m:Nat)(ts:List TS)(es:List Bool)(Ss:PV)(hO: ∀σ,F5 Ss [] σ=O)(hm:E.P.follows .mixedOrders=true)(hsl:rl E.N.n [] (L.take m)=true)(hlen:ts.length=(L.take m).length)(hesl:es.length=(L.take m).length)(ht:sR L (L.take m).length (L.drop m).length=true)(hd:DT E G L ts Ss es 0 (L.take m) es)(k: ∀σ:Nat→OI,RG E L.toArray Q (L.drop m) (F5 Ss (wH es) σ) (BV (L.take m) (HR ts σ) G)):CG E Q (.region id L.toArray true) O G:=fun a w S st=>by
 have hL:L=L.take m++L.drop m:=(qX m L).symm
 generalize L.take m=l at hL hsl hlen hesl ht hd k
 generalize L.drop m=t at hL ht k
 subst hL
 refine wpIn_region_any hm ?_
 obtain⟨he,hs⟩:=sa (w:=w) st.sat
 have hdn0:yZ es (Array.replicate (l++t).toArray.size false)=[]:=by
  unfold yZ
  refine List.filter_eq_nil_iff.2 fun k hk=>?_
  simp [s7]
  intro _
  split<;>simp
 refine Bx hsl hlen hesl hd ht (fun a w S σ st=>k σ a w S st) _ _ _ _ S (fun _=>kY) ?_ (fun j _=>?_)
  ⟨st.ext.step0 he,hs,by rw [hdn0,hO];exact st.own.ext0 he,st.facts.size,st.facts.defers,by simp,fun j o hj hdone=>?_,fun k t hk _=>st.facts.at_ k t hk,fun j o d t hj hdone=>?_,fun j p hdone=>?_⟩
 ·unfold ic;rw [D8,D6];simp
 ·simp [s7];split<;>rfl
 ·simp [s7]at hdone
  split at hdone<;>simp at hdone
 ·simp [s7]at hdone
  split at hdone<;>simp at hdone
 ·simp [s7]at hdone
  split at hdone<;>simp at hdone

variable{base:Nat}{y:Operand}
theorem cj.perm{B:Nat→Prop}{O' :List OE}(h:O.Perm O'):cj base B w S O→cj base B w S O' :=by
 induction h with
 |nil=>exact id
 |cons x p ih=>
  rintro⟨h1,h2,h3⟩
  exact⟨h1,fun f hf=>h2 f (p.mem_iff.2 hf),ih h3⟩
 |swap x y l=>
  rintro⟨h1,h2,h3,h4,h5⟩
  refine⟨h3,fun f hf k hk hfk=>?_,h1,fun f hf=>h2 f (mS _ hf),h5⟩
  rcases gc.1 hf with rfl|hf
  ·exact h2 x (gV ..) k hfk hk
  ·exact h4 f hf k hk hfk
 |trans _ _ ih1 ih2=>exact fun k=>ih2 (ih1 k)
def oT(O:List OE):List Nat→List OE
 |[]=>[]
 |i::l=>match O[i]? with
  |some e=>e::oT O l
  |none=>oT O l
theorem un(O:List OE): ∀a b:List Nat,oT O (a++b)=oT O a++oT O b
 |[],_=>rfl
 |i::a,b=>by
  simp only [Bq,oT]
  split<;>simp [un O a b]
theorem Dl{a b:List Nat}(h:a.Perm b):(oT O a).Perm (oT O b):=by
 induction h with
 |nil=>exact .nil
 |cons x p ih=>
  simp only [oT]
  split
  ·exact .cons _ ih
  ·exact ih
 |swap x y l=>
  simp only [oT]
  cases hx:O[x]? <;>cases hy:O[y]? <;>simp<;>exact .swap ..
 |trans _ _ ih1 ih2=>exact ih1.trans ih2
theorem BS(O:List OE):oT O (List.range O.length)=O:=by
 have key: ∀n,n≤O.length→oT O (List.range n)=O.take n:=by
  intro n
  induction n with
  |zero=>intro _;rfl
  |succ n ih=>
   intro h
   rw [List.range_succ,un,ih (by omega)]
   simp only [oT]
   rw [lK (by omega),F7 (by omega)]
 rw [key _ (ia _),Bp]
theorem cj.pick{B:Nat→Prop}(l:List Nat)(hl:l.isPerm (List.range O.length)=true)(h:cj base B w S O):cj base B w S (oT O l):=
 h.perm (by
  have:=Dl (O:=O) (List.isPerm_iff.1 hl)
  rw [BS]at this
  exact this.symm)

section
end
open Go.ChangeShapes Go.WideShapes Go.ChangeAt Go.RowKit

variable{H:Type}{P:Program}{T:TypeId}{W:World}{c cap:Nat}{cells:List Value}{enc:TypeId×Value→H}{g:Option (Nat×Bool)}{off:Nat}{rest:List Oper}{xs ys:List α}{z:List Value}
section
def B6(W:World):SH:=fun b=>W.heap[b]?
theorem LI(W:World)(hg: ∀p∈glob,∃c T fr,W.heap[p.1]? =some (.cells c T fr)∧c.toList.take p.2.length=p.2)(ht: ∀w' :World,(∀(b:Nat) (o:Obj),W.heap[b]? =some o→ ∃o',w'.heap[b]? =some o' ∧yR o o')→Fm w'):ft W (B6 W):=⟨fun _ o h=>⟨o,h,pH o⟩,hg,ht⟩
def w7(enc:TypeId×Value→H)(P:Program)(W:World){α:Type}(t:TypeId)(r:Rp α):Prop:=
 P.cellsOf t=r.sz∧ ∀fuel cs x,DataW.trod enc P W 0 (fun _=>true) true fuel t cs=some x→ ∃y,r.rc (B6 W) cs y
theorem pJ{α β:Type}{f:α→Option β}: ∀{l:List α} {r:List β},l.mapM f=some r→r.length=l.length∧ ∀(i:Nat) (x:α),l[i]? =some x→ ∃y,r[i]? =some y∧f x=some y
 |[],r,h=>by
  simp at h
  subst h
  exact⟨rfl,fun i x hx=>by simp at hx⟩
 |a::l,r,h=>by
  rw [List.mapM_cons]at h
  cases hf:f a with
  |none=>rw [hf]at h;simp at h
  |some b=>
   rw [hf]at h
   cases hm:l.mapM f with
   |none=>rw [hm]at h;simp at h
   |some r' =>
    rw [hm]at h
    simp at h
    subst h
    obtain⟨h1,h2⟩:=pJ hm
    refine⟨by simp [h1],fun i x hx=>?_⟩
    cases i with
    |zero=>simp at hx;subst hx;exact⟨b,rfl,hf⟩
    |succ i=>exact h2 i x (by simpa using hx)
theorem vD{a:Addr}{v:Value}(h:W.cell? a=some v):a.spot=none∧ ∃c E fr,W.heap[a.block]? =some (.cells c E fr)∧c[a.off]? =some v:=by
 unfold World.cell? at h
 cases ho:W.heap[a.block]? with
 |none=>rw [ho]at h;cases h
 |some o=>
  rw [ho]at h
  cases o with
  |cells c E fr=>
   simp only at h
   by_cases hs:a.spot.isSome=true
   ·rw [c9 hs]at h;cases h
   ·rw [cZ hs]at h
    exact⟨by cases hq:a.spot with
     |none=>rfl
     |some s=>rw [hq]at hs;simp at hs,c,E,fr,rfl,h⟩
  |_=>simp at h
theorem zP(a:Addr):a.add 0=a:=by unfold Addr.add;rfl
theorem DX{b:Nat}{cs:List Value}(h:W.cells? 0 ⟨b,off,none⟩ n=some cs)(hn:0<n): ∃c E fr,W.heap[b]? =some (.cells c E fr)∧cs=(c.toList.drop off).take n:=by
 unfold World.cells? at h
 rw [c9 (gx _)]at h
 obtain⟨h1,h2⟩:=pJ h
 obtain⟨v,_,hv⟩:=h2 0 0 (by simp [hn])
 obtain⟨_,c,E,fr,h3,h4⟩:=vD hv
 refine⟨c,E,fr,by simpa [Addr.add] using h3,?_⟩
 apply List.ext_getElem?
 intro i
 have hl:cs.length=n:=by simpa using h1
 by_cases hi:i<n
 ·obtain⟨v,h5,h6⟩:=h2 i i (by simp [hi])
  obtain⟨_,c',E',fr',h7,h8⟩:=vD h6
  rw [fH]at h7 h8
  have h7' :W.heap[b]? =some (.cells c' E' fr'):=h7
  have h3' :W.heap[b]? =some (.cells c E fr):=by simpa [Addr.add] using h3
  rw [h3']at h7'
  injection h7' with h7'
  injection h7' with e1
  subst e1
  rw [h5,xd hi,wx]
  simpa using h8.symm
 ·rw [Fc (by omega),Fc (by simp;omega)]
theorem Fk{q:Rp α}{len:Nat}{a:Addr}{x:DataW H×List MemPlace}(h0' :0<q.sz)(hq:w7 enc P W e q)(hx:(let elemAt (i:Nat):Option (DataW H×List MemPlace):=(W.cells? 0 (a.add (i*P.cellsOf e)) (P.cellsOf e)).bind (DataW.trod enc P W 0 (fun _=>true) true n e)
   if 0≤a.block∧len≤cap∧cap≤maxLen then
    ((List.range len).mapM elemAt).bind fun elems=>
     (if(fun _=>true) a.block then(List.range (cap-len)).mapM fun j=>elemAt (len+j)else some []).map fun rest=>
      (DataW.slice (elems.map (·.1)) (rest.map (·.1)),MemPlace.row a ((elems.length+rest.length)*P.cellsOf e)++(elems++rest).flatMap (·.2))
   else none)=some x): ∃y,(ea q).rc (B6 W) [.slice (some a) len cap] y:=by
 simp only at hx
 split at hx
 ·rename_i hcond
  obtain⟨_,hle,hmax⟩:=hcond
  cases hm:(List.range len).mapM (fun i=>(W.cells? 0 (a.add (i*P.cellsOf e)) (P.cellsOf e)).bind (DataW.trod enc P W 0 (fun _=>true) true n e))with
  |none=>rw [hm]at hx;simp at hx
  |some elems=>
   obtain⟨hm1,hm2⟩:=pJ hm
   rw [hq.1]at hm2
   by_cases hl0:len=0
   ·subst hl0;exact⟨[],some a,cap,rfl,gx _,hmax,.inl rfl⟩
   have hsp0:a.spot=none:=by
    obtain⟨z,_,hz⟩:=hm2 0 0 (by rw [List.getElem?_range (by omega)])
    rw [Nat.zero_mul,zP]at hz
    cases hcs:W.cells? 0 a q.sz with
    |none=>rw [hcs]at hz;simp at hz
    |some cs1=>
     unfold World.cells? at hcs
     rw [c9 (gx _)]at hcs
     obtain⟨_,g2⟩:=pJ hcs
     obtain⟨v,_,hv⟩:=g2 0 0 (by simp [h0'])
     rw [zP]at hv
     exact(vD hv).1
   have hcell: ∀i,i<len→ ∃c E fr,a.spot=none∧W.heap[a.block]? =some (.cells c E fr)∧ ∃y,q.rc (B6 W) ((c.toList.drop (a.off+i*q.sz)).take q.sz) y:=by
    intro i hi
    obtain⟨z,_,hz⟩:=hm2 i i (by simp [hi])
    cases hcs:W.cells? 0 (a.add (i*q.sz)) q.sz with
    |none=>rw [hcs]at hz;simp at hz
    |some cs1=>
     rw [hcs]at hz
     have hsp:a.spot=none:=hsp0
     obtain⟨ab,ao,az⟩:=a
     simp only at hsp
     subst hsp
     rw [fH]at hcs
     obtain⟨c,E,fr,g1,g2⟩:=DX hcs h0'
     obtain⟨y,hy⟩:=hq.2 n cs1 z hz
     exact⟨c,E,fr,rfl,g1,y,by rw [←g2];exact hy⟩
   obtain⟨c,E,fr,hsp,hb,_⟩:=hcell 0 (by omega)
   have key: ∀m,m≤len→ ∃ys:List α,ys.length=m∧oS q (B6 W) ((c.toList.drop a.off).take (m*q.sz)) ys:=by
    intro m
    induction m with
    |zero=>intro _;exact⟨[],rfl,by simp [oS]⟩
    |succ m ih=>
     intro hm'
     obtain⟨ys,hy1,hy2⟩:=ih (by omega)
     obtain⟨c',E',fr',_,hb',y,hy⟩:=hcell m (by omega)
     rw [hb]at hb'
     injection hb' with hb'
     injection hb' with e1
     subst e1
     refine⟨ys++[y],by simp [hy1],?_⟩
     have hsplit:(c.toList.drop a.off).take ((m+1)*q.sz)=(c.toList.drop a.off).take (m*q.sz)++(c.toList.drop (a.off+m*q.sz)).take q.sz:=by
      rw [q7,Nat.one_mul,List.take_add,s6]
     rw [hsplit]
     exact qd hy2 (Dk.2 hy)
   obtain⟨ys,hy1,hy2⟩:=key len (ia _)
   obtain⟨ab,ao,az⟩:=a
   simp only at hsp
   subst hsp
   exact⟨ys,some ⟨ab,ao,none⟩,cap,by rw [hy1],by omega,hmax,.inr ⟨ab,ao,c,E,fr,rfl,hb,by rw [hy1];exact hy2⟩⟩
 ·cases hx
theorem nu{q:Rp α}(h:P.underlying t=some (.slice e))(hc:P.cellsOf t=1)(h0:Nat.blt 0 q.sz=true)(hq:w7 enc P W e q):w7 enc P W t (ea q):=⟨hc,fun fuel cs x hx=>by
 have h0' :0<q.sz:=by simpa [qW] using h0
 cases fuel with
 |zero=>simp [DataW.trod]at hx
 |succ n=>
  unfold DataW.trod at hx
  rw [h]at hx
  split at hx
  all_goals try (injections;done)
  ·exact⟨[],none,0,rfl,ia _,gx _,.inl rfl⟩
  ·rename_i e' a len cap heq
   injection heq with e1
   injection e1 with e1
   subst e1
   exact Fk h0' hq hx⟩
def Kv(enc:TypeId×Value→H)(P:Program)(W:World){α:Type}(off:Nat)(l:List (TypeId×Nat))(r:Rp α):Prop:=
 ∀(fuel:Nat) (cs:List Value),cs.length=off+r.sz→(∀f∈l,∃x,DataW.trod enc P W 0 (fun _=>true) true fuel f.1 ((cs.drop f.2).take (P.cellsOf f.1))=some x)→ ∃y,r.rc (B6 W) (cs.drop off) y
theorem rL{t:Nat}(h:w7 enc P W t r):Kv enc P W off [(t,off)] r:=fun fuel cs hl hx=>by
 obtain⟨x,hx⟩:=hx _ (D9 _)
 simp only at hx
 rw [h.1,yE (by simp;omega)]at hx
 exact h.2 _ _ _ hx
theorem nC{t off' :Nat}(h:w7 enc P W t p)(ho:off' =off+p.sz)(hr:Kv enc P W off' l q):Kv enc P W off ((t,off)::l) (cI p q):=fun fuel cs hl hx=>by
 subst ho
 obtain⟨x,hx1⟩:=hx _ (gV ..)
 simp only at hx1
 rw [h.1]at hx1
 obtain⟨y,hy⟩:=h.2 _ _ _ hx1
 obtain⟨z,hz⟩:=hr fuel cs (by rw [hl];show off+(p.sz+q.sz)=_;omega) fun f hf=>hx f (mS _ hf)
 exact⟨(y,z),_,_,by rw [←s6];exact(qX _ _).symm,hy,hz⟩
theorem nP{f:β→α}(ht:(P.underlying t).map (fun d=>match d with| .struct l=>(true,l.toList.map fun f=>(f.type,f.offset))|_=>(false,[]))=some (true,l))(hc:P.cellsOf t=p.sz)(hf: ∀y,∃x,f x=y)(hl:Kv enc P W 0 l p):w7 enc P W t (kZ p f):=⟨hc,fun fuel cs x hx=>by
 obtain⟨fs,h1,h2⟩: ∃fs,P.underlying t=some (.struct fs)∧fs.toList.map (fun f=>(f.type,f.offset))=l:=by
  cases hu:P.underlying t with
  |none=>rw [hu]at ht;cases ht
  |some d=>
   rw [hu]at ht
   cases d<;>simp at ht
   exact⟨_,rfl,ht⟩
 cases fuel with
 |zero=>simp [DataW.trod]at hx
 |succ n=>
  unfold DataW.trod at hx
  rw [h1]at hx
  change (if cs.length=P.cellsOf t then(fs.toList.mapM fun f=>DataW.trod enc P W 0 (fun _=>true) true n f.type ((cs.drop f.offset).take (P.cellsOf f.type))).map (fun xs=>(DataW.agg (xs.map (·.1)),xs.flatMap (·.2)))else none)=some x at hx
  split at hx
  ·rename_i hlen
   cases hm:fs.toList.mapM (fun f=>DataW.trod enc P W 0 (fun _=>true) true n f.type ((cs.drop f.offset).take (P.cellsOf f.type)))with
   |none=>rw [hm]at hx;simp at hx
   |some r=>
    obtain⟨_,hm2⟩:=pJ hm
    obtain⟨y,hy⟩:=hl n cs (by rw [hlen,hc];omega) (fun g hg=>by
     rw [←h2,List.mem_map]at hg
     obtain⟨f0,hf0,rfl⟩:=hg
     obtain⟨i,hi⟩:=List.getElem?_of_mem hf0
     obtain⟨z,_,hz⟩:=hm2 i f0 hi
     exact⟨z,hz⟩)
    obtain⟨x',hx'⟩:=hf y
    refine⟨x',?_⟩
    show p.rc _ cs (f x')
    rw [hx']
    simpa using hy
  ·cases hx⟩
theorem A7{W' :World}(h:d6 kV W S W' S'):Below W.heap.size W W' :=⟨h.os,h.tape,h.output,h.size,fun k hk=>h.heap k hk (fun h=>h)⟩
theorem sP(hl:laidOutB P=true){W W' :World}(hb:Below W.heap.size W W'){sp:Nat→Bool}: ∀{ts:List TypeId} {vs:List Value} {ds:List (DataW H)} {ps:List MemPlace},(∀t∈ts,P.readableRec t=true∧t<P.types.size)→
  DataW.TrodAll enc P W 0 (fun _=>true) true ts vs ds ps→(∀p∈ps,p.block<W.heap.size)→(∀p∈ps,sp p.block=true)→DataW.TrodAll enc P W' 0 sp true ts vs ds ps
 |[],[],[],_,_,h,_,_=>h
 |t::ts,v::vs,d::ds,_,hr,⟨p,q,h1,h2,e⟩,hlt,hsp=>by
  subst e
  have ht:=hr t (gV ..)
  exact⟨p,q,WideElems.Trod_stays hl ht.1 ht.2 h1 (fun x hx=>hb.same (hlt x (Fb _ hx))) (fun x hx=>hsp x (Fb _ hx)),
   sP hl hb (fun t ht=>hr t (mS _ ht)) h2 (fun x hx=>hlt x (List.mem_append_right _ hx)) (fun x hx=>hsp x (List.mem_append_right _ hx)),rfl⟩
theorem GC{f:Func}{s:ChangeSpec}{apart fresh handsOn again:Bool}{W' :World}{args:Array Value}{ds gs:List (DataW H)}{before:List MemPlace}{tb:TypeId}(hl:laidOutB P=true)(hr: ∀t∈f.params.toList,P.readableRec t=true∧t<P.types.size)(hvs:s.vars=[])(hres:f.resultTypes= #[tb])(htb:P.underlying tb=some .bool)(hW:DataW.Whole enc P f.params.toList s.vars apart W args.toList ds gs before)(hs:s.fn H (ds++gs)={results:=[.lit (.bool true)],args:=ds})(hb:Below W.heap.size W W'):
  s.post enc P f apart fresh handsOn again W args (.bool true) W' :=by
 have hW0:=hW
 have hlt:=hW.lt
 obtain⟨pa,pv,hA,hV,rfl,hz,hn⟩:=hW
 rw [hvs]at hV
 have hpv:pv=[]:=by
  cases gs with
  |nil=>exact hV
  |cons g gs=>exact hV.elim
 subst hpv
 have hlt' : ∀p∈pa,p.block<W.heap.size:=fun p hp=>hlt p (by simpa using hp)
 have hargs: ∀sp:Nat→Bool,(∀p∈pa,sp p.block=true)→DataW.TrodAll enc P W' 0 sp true f.params.toList args.toList ds pa:=fun sp hsp=>sP hl hb hr hA hlt' hsp
 have hresT: ∀(b:Nat) (sp:Nat→Bool) (hd:Bool),DataW.TrodAll enc P W' b sp hd f.resultTypes.toList ((Value.bool true).resultList f.resultTypes.size) [.lit (.bool true)] []:=fun b sp hd=>by
  rw [hres]
  exact⟨[],[],⟨1,by simp [DataW.trod,htb,Value.cells]⟩,rfl,rfl⟩
 have hvT: ∀sp:Nat→Bool,DataW.TrodVars enc P W' sp s.vars (s.fn H (ds++gs)).vars []:=fun sp=>by
  rw [hvs,hs];rfl
 have hargs' : ∀sp:Nat→Bool,(∀p∈pa,sp p.block=true)→DataW.TrodAll enc P W' 0 sp true f.params.toList args.toList (s.fn H (ds++gs)).args pa:=fun sp hsp=>by rw [hs];exact hargs sp hsp
 have hres' : ∀(b:Nat) (sp:Nat→Bool) (hd:Bool),DataW.TrodAll enc P W' b sp hd f.resultTypes.toList ((Value.bool true).resultList f.resultTypes.size) (s.fn H (ds++gs)).results []:=fun b sp hd=>by rw [hs];exact hresT b sp hd
 have hold: ∀p∈pa,(fun b=>decide (b<W.heap.size)) p.block=true:=fun p hp=>by simpa using hlt' p hp
 refine⟨ds,gs,pa++[],[],pa,[],hW0,hres' _ _ _,hargs' _ hold,hvT _,World.keptBut_mono (fun p hp=>⟨hp,?_⟩) (hb.frame _),fun _=>?_⟩
 ·right;simpa using hp
 ·refine⟨?_,_,_,([]++pa)++[],⟨[]++pa,[],trodAll_append (hargs' _ (fun _ _=>rfl)) (hres' _ _ _),hvT _,rfl,?_,?_⟩,?_⟩
  ·intro j t r h1 h2
   rw [hres]at h1 h2
   cases j with
   |zero=>
    simp [Value.resultList]at h1 h2
    subst h1 h2
    simp [Value.okWide,htb,Cell.okWide,Cell.ok]
   |succ j=>simp at h1
  ·intro b off hp
   have hp' :MemPlace.cell b off∈pa:=by simpa using hp
   have:=hlt' _ hp'
   rw [hb.frozen (p:=⟨b,off,none⟩) this]
   exact hz b off (by simpa using hp')
  ·intro ha
   have:=hn ha
   simpa using this
  ·intro p hp _
   simpa using hp
end

variable{agg:Bool}{ok:α→Prop}
section
def CL{α:Type}(r:Rp α)(ok:α→Prop):Rp α where
 sz:=r.sz
 agg:=r.agg
 rc:=fun S cs x=>r.rc S cs x∧ok x
 mono:=fun h k=>⟨r.mono h k.1,k.2⟩
 len:=fun k=>r.len k.1
 one:=fun k=>r.one k.1
 sc:=r.sc
def Dw(k:IntKind)(n:Int):Prop:=k.min≤n∧n≤k.max
def KE(s:eA):Prop:=s.length≤maxLen
def LP{α:Type}(ok:α→Prop)(xs:List α):Prop:=xs.length≤maxLen∧ ∀x∈xs,ok x
theorem xp(h:P.underlying t=some (.int k))(hc:P.cellsOf t=1):w7 enc P W t (CL (rI k) (Dw k)):=⟨hc,fun fuel cs x hx=>by
 cases fuel with
 |zero=>simp [DataW.trod]at hx
 |succ n=>
  unfold DataW.trod at hx
  rw [h]at hx
  split at hx
  all_goals try (injections;done)
  ·rename_i k1 k2 m heq
   injection heq with e
   injection e with e
   subst e
   split at hx
   ·rename_i h2
    obtain⟨rfl,h3⟩:=h2
    simp only [Lit.wf,km,gU]at h3
    exact⟨m,rfl,h3⟩
   ·cases hx⟩
theorem Gh(h:P.underlying t=some .string)(hc:P.cellsOf t=1):w7 enc P W t (CL rS KE):=⟨hc,fun fuel cs x hx=>by
 cases fuel with
 |zero=>simp [DataW.trod]at hx
 |succ n=>
  unfold DataW.trod at hx
  rw [h]at hx
  split at hx
  all_goals try (injections;done)
  ·rename_i s heq
   split at hx
   ·rename_i h2;exact⟨s.data.toList,rfl,(show s.data.toList.length≤maxLen from(show s.size=s.data.toList.length from rfl)▸h2)⟩
   ·cases hx⟩
def D0{α:Type}(r' r:Rp α)(ok:α→Prop):Prop:=r'.sz=r.sz∧r'.agg=r.agg∧ ∀S cs x,r'.rc S cs x→r.rc S cs x∧ok x
theorem rt:D0 (CL r ok) r ok:=⟨rfl,rfl,fun _ _ _ h=>h⟩
theorem Ei{α:Type}{r' r:Rp α}{ok:α→Prop}(h:D0 r' r ok){S:SH}: ∀{xs:List α} {cs:List Value},oS r' S cs xs→oS r S cs xs∧ ∀x∈xs,ok x
 |[],_,k=>⟨k,fun x hx=>by cases hx⟩
 |x::xs,_,⟨a,b,e,h1,h2⟩=>by
  obtain⟨g1,g2⟩:=h.2.2 _ _ _ h1
  obtain⟨g3,g4⟩:=Ei h h2
  exact⟨⟨a,b,e,g1,g3⟩,fun y hy=>by
   rcases gc.1 hy with rfl|hy
   ·exact g2
   ·exact g4 y hy⟩
theorem vn{r' :Rp α}(h:D0 r' r ok):D0 (ea r') (ea r) (LP ok):=⟨rfl,rfl,fun S cs xs ⟨a,cap,e,h1,h2,h3⟩=>by
 rcases h3 with h3|⟨b,off,c,E,fr,e1,e2,e3⟩
 ·exact⟨⟨a,cap,e,h1,h2,.inl h3⟩,by omega,fun x hx=>by rw [h3]at hx;cases hx⟩
 ·rw [h.1]at e3
  obtain⟨g1,g2⟩:=Ei h e3
  exact⟨⟨a,cap,e,h1,h2,.inr ⟨b,off,c,E,fr,e1,e2,g1⟩⟩,by omega,g2⟩⟩
theorem pC{p' :Rp α}{q' :Rp β}{f:α→Prop}{g:β→Prop}(h:D0 p' p f)(k:D0 q' q g):D0 (cI p' q') (cI p q) (fun x=>f x.1∧g x.2):=
 ⟨by show p'.sz+q'.sz=p.sz+q.sz;rw [h.1,k.1],rfl,fun S cs x ⟨a,b,e,h1,h2⟩=>⟨⟨a,b,e,(h.2.2 _ _ _ h1).1,(k.2.2 _ _ _ h2).1⟩,(h.2.2 _ _ _ h1).2,(k.2.2 _ _ _ h2).2⟩⟩
theorem uk{p' :Rp α}{f:β→α}(h:D0 p' p ok):D0 (kZ p' f) (kZ p f) (fun x=>ok (f x)):=
 ⟨h.1,rfl,fun S cs x k=>h.2.2 _ _ _ k⟩
theorem EX{r' :Rp α}(h:w7 enc P W t r')(hr:D0 r' r ok)(hag:r.agg=true){v:Value}{d:DataW H}{ps:List MemPlace}(hv:DataW.Trod enc P W 0 (fun _=>true) true t v d ps)(hc:v= .agg v.cells): ∃y,(tD r y).p (B6 W) v∧ok y:=by
 obtain⟨fuel,hx⟩:=hv
 obtain⟨y,hy⟩:=h.2 _ _ _ hx
 obtain⟨g1,g2⟩:=hr.2.2 _ _ _ hy
 exact⟨y,⟨_,by unfold Rp.val;rw [hag,c9 rfl];exact hc,g1⟩,g2⟩
theorem uU{l:Array Field}{v:Value}(ht:P.underlying t=some (.struct l))(hv:Value.okWide P W .any base t v):v= .agg v.cells:=by
 unfold Value.okWide at hv
 rw [ht]at hv
 obtain⟨cs,e,_⟩:=hv
 rw [e]
 rfl
end

variable{Ds:List (DataW Unit)}
section
variable{held:Bool}
def Kq(P:Program)(W:World)(held:Bool)(t:TypeId)(D:DataW Unit)(cells:List Value):Prop:=
 P.cellsOf t=cells.length∧ ∀fuel cs x,DataW.trod (fun _=>()) P W 0 (fun _=>true) held fuel t cs=some x→x.1=D→cs=cells
theorem kB{n:Int}(h:P.underlying t=some (.int k))(hc:P.cellsOf t=1):Kq P W held t (.lit (.int k n)) [.int k n]:=⟨hc,fun fuel cs x hx hD=>by
 obtain⟨m,h1,h2,_⟩:=DataW.trod_int h hx
 subst h2
 simp only [DataW.lit.injEq,Lit.int.injEq,true_and]at hD
 rw [h1,hD]⟩
theorem dh{s:List UInt8}(h:P.underlying t=some .string)(hc:P.cellsOf t=1):Kq P W held t (.lit (.string s)) [.string ⟨s.toArray⟩]:=⟨hc,fun fuel cs x hx hD=>by
 obtain⟨m,h1,h2,_⟩:=DataW.trod_string h hx
 subst h2
 simp only [DataW.lit.injEq,Lit.string.injEq]at hD
 subst hD
 rw [h1]⟩
def FC(P:Program)(W:World)(held:Bool)(off:Nat)(l:List (TypeId×Nat))(Ds:List (DataW Unit))(cells:List Value):Prop:=
 ∀(n:Nat) (cs:List Value),cs.length=off+cells.length→(∀(i:Nat) f,l[i]? =some f→ ∃x,DataW.trod (fun _=>()) P W 0 (fun _=>true) held n f.1 ((cs.drop f.2).take (P.cellsOf f.1))=some x∧Ds[i]? =some x.1)→cs.drop off=cells
theorem qp:FC P W held off [] [] []:=fun n cs hl _=>oI (by simp at hl;omega)
theorem bT{off' :Nat}{D:DataW Unit}{c:List Value}(h:Kq P W held t D c)(ho:off' =off+c.length)(k:FC P W held off' l Ds cells):FC P W held off ((t,off)::l) (D::Ds) (c++cells):=fun n cs hl hx=>by
 obtain⟨x,h1,h2⟩:=hx 0 (t,off) rfl
 simp only [List.getElem?_cons_zero,Bs]at h2
 have h3:=h.2 n _ x h1 h2.symm
 have h4:=k n cs (by rw [hl,ho,lJ];omega) fun i f hf=>by simpa using hx (i+1) f (by simpa using hf)
 have e:cs.drop off=(cs.drop off).take (P.cellsOf t)++cs.drop off' :=by
  rw [ho,←h.1,←s6,qX]
 rw [e,h4]
 exact congrArg (· ++cells) h3
theorem lM(ht:(P.underlying t).map (fun d=>match d with| .struct l=>(true,l.toList.map fun f=>(f.type,f.offset))|_=>(false,[]))=some (true,l))(hc:P.cellsOf t=cells.length)(hf:FC P W held 0 l Ds cells):Kq P W held t (.agg Ds) cells:=⟨hc,fun fuel cs x hx hD=>by
 obtain⟨fs,h1,h2⟩: ∃fs,P.underlying t=some (.struct fs)∧fs.toList.map (fun f=>(f.type,f.offset))=l:=by
  cases hu:P.underlying t with
  |none=>rw [hu]at ht;cases ht
  |some d=>
   rw [hu]at ht
   cases d<;>simp at ht
   exact⟨_,rfl,ht⟩
 obtain⟨xs,n,rfl,h3,h4,h5,h6⟩:=DataW.trod_struct h1 hx
 rw [h3]at hD
 simp only [DataW.agg.injEq]at hD
 have:=hf n cs (by rw [h4,hc];omega) fun i f hi=>by
  rw [←h2,CO]at hi
  obtain⟨f0,hf0,rfl⟩:=pW.1 hi
  have h7:=h6 i f0 (by simpa using hf0)
  have hlt:i<xs.length:=by
   have:=(m8.1 hf0).1
   rw [h5];simpa using this
  rw [lK hlt]at h7
  exact⟨xs[i],h7,by rw [←hD];simp [hlt]⟩
 rwa [nG]at this⟩
theorem Am{m:Nat}(ht:P.underlying t=some (.array m e))(hc:P.cellsOf t=cells.length)(hf:FC P W held 0 ((List.range m).map fun i=>(e,i*P.cellsOf e)) Ds cells):Kq P W held t (.agg Ds) cells:=⟨hc,fun fuel cs x hx hD=>by
 obtain⟨xs,n,rfl,h3,h4,h5,h6⟩:=DataW.trod_array ht hx
 rw [h3]at hD
 simp only [DataW.agg.injEq]at hD
 have:=hf n cs (by rw [h4,hc];omega) fun i f hi=>by
  rw [CO]at hi
  obtain⟨j,hj,rfl⟩:=pW.1 hi
  obtain⟨hlt,hj2⟩:=m8.1 hj
  simp at hlt hj2
  subst hj2
  have h7:=h6 i hlt
  have hlt' :i<xs.length:=by rw [h5];exact hlt
  rw [lK hlt']at h7
  exact⟨xs[i],h7,by rw [←hD];simp [hlt']⟩
 rwa [nG]at this⟩
theorem B7: ∀{L:List (String×DataW Unit)} {ps:List MemPlace},DataW.LaidVars P W L ps→ ∀n d,(n,d)∈L→ ∃g t cs fuel p,P.globalNamed n=some g∧(P.globals[g]?).map (·.type)=some t∧W.var? P n=some cs∧DataW.trod (fun _=>()) P W 0 (fun _=>true) false fuel t cs.toList=some (d,p)
 |(_,_)::_,_,⟨g,t,cs,fuel,p,_,h1,h2,h3,h4,_,_⟩,_,_,.head _=>⟨g,t,cs,fuel,p,h1,h2,h3,h4⟩
 |(_,_)::_,_,⟨_,_,_,_,_,_,_,_,_,_,h,_⟩,n,d,.tail _ hm=>B7 h n d hm
theorem qi{L:List (String×DataW Unit)}(h:laidMet P L W){n:String}{d:DataW Unit}(hm:(n,d)∈L){g:Nat}(hg:P.globalNamed n=some g)(ht:(P.globals[g]?).map (·.type)=some t)(hc:Kq P W false t d cells):
  ∃c T fr,W.heap[g]? =some (.cells c T fr)∧c.toList.take cells.length=cells:=by
 obtain⟨ps,hL,_,_⟩:=h
 obtain⟨g',t',cs,fuel,p,h1,h2,h3,h4⟩:=B7 hL n d hm
 obtain rfl:=kX (hg.symm.trans h1)
 obtain rfl:=kX (ht.symm.trans h2)
 have h5:=hc.2 fuel _ _ h4 rfl
 unfold World.var? at h3
 rw [hg]at h3
 simp only [im]at h3
 split at h3
 ·rename_i c T fr hb
  cases h3
  exact⟨_,_,_,hb,by rw [h5,Bp]⟩
 ·cases h3
end


section
theorem hH{N:Fr}{y:α}{v:Value}{x:Operand}(hag:r.agg=true)(hr: ∀S,r.rc S [v] y)(h:aH N G x (tV (.agg #[v]))):aH N G x (tD r y):=fun S a hf=>⟨[v],by rw [Rp.val,c9 hag];exact h S a hf,hr S⟩
end

section
variable{N:Nat}{w0:World}{S0:SH}{O1:List OE}{ι:Type}{t:ι→Ty}{O2:ι→List OE}
end
section
variable{c:Code}
end

variable{after:Array Edge}{bytes:Nat}{pos:String}{sz:Nat}
section
theorem FK{x:α}{n:Int}{zs:List α}{y' :Operand}{k' :IntKind}(ti:TI E.P T sz bytes agg z)(hsz:r.sz=sz)(hz:Nat.beq z.length sz=true)(h128:Nat.ble bytes 2048=true)(ht:E.P.underlying t=some (.slice T))(hx: ∀S,r.rc S z x)(hy:aH E.N G y (tD (rI k) n))(hy' :aH E.N G y' (tD (rI k') n))(h:pc n x=some zs):
  EffOK E O G ⟨some d,.makeSlice t y y',ty,pos,after,g⟩ (fun i=>db r T (i.h 0).1 (i.h 0).2 zs::O) (fun i=>tO r (i.h 0).1 (i.h 0).2 zs):=fun a w S hs ho hf hb=>by
 subst hsz
 obtain⟨i,zv,hi,h1,h2,h3,h4⟩:=ti.get
 obtain⟨m,rfl,hm,rfl⟩:=re h
 have hyv:=cq.1 (hy S a hf)
 have hyv' :=cq.1 (hy' S a hf)
 have hz2:z.length=r.sz:=kp hz
 have h128' :=ko h128
 have hbytes:(i.bytes:Int)*(m:Int)≤281474976710656:=by
  have:i.bytes*m≤2048*68719476736:=Nat.mul_le_mul (by omega) hm
  have h5:((i.bytes*m:Nat):Int)≤281474976710656:=by omega
  rwa [Int.natCast_mul]at h5
 have hr:=run_make (P:=E.P) w t T i zv ht hi h3 k k' (m:Int) (m:Int) (by omega) (Int.le_refl _) hbytes (by omega)
 rw [y7,h1,h4]at hr
 obtain⟨he,hs'⟩:=lB (w:=w) (.cells (madeCells z.toArray (m*r.sz)) T (0,0)) hs
 have hrun:(execOp a.eval ⟨some d,.makeSlice t y y',ty,pos,after,g⟩).run E.P w= .ok (.value (.slice (some ⟨w.heap.size,0,none⟩) m m)) (w.alloc (.cells (madeCells z.toArray (m*r.sz)) T (0,0))):=by
  simp [execOp,hyv,hyv',hr]
 refine⟨fun c h=>(by cases h),?_⟩
 rw [hrun]
 have hfl:=rM hz2 m
 have hmc:=pK z m r.sz hz2
 have harr:vG true r T (some w.heap.size) m (List.replicate m x) (w.alloc (.cells (madeCells z.toArray (m*r.sz)) T (0,0))) (S.set w.heap.size (.cells (madeCells z.toArray (m*r.sz)) T (0,0))):=by
  refine⟨(List.replicate m z).flatten,⟨_,wv w _,by simp,by simp only [maxLen];omega,by rw [size_madeCells],?_⟩,pD hx _ m,fun b hb=>?_⟩
  ·rw [hmc,Bn]
   exact yE (by omega)
  ·rw [←kX hb]
   have e:madeCells z.toArray (m*r.sz)=((List.replicate m z).flatten).toArray:=by
    rw [←hmc]
   rw [c9 rfl,←e]
   exact jY _ _ _
 refine⟨_,_,oi (some w.heap.size) m,rfl,he.more fun _ hb=>hb.elim,hs',kD ho he (e:=db r T (some w.heap.size) m (List.replicate m x)) harr (fun b hb=>yC (kX hb)) hb,?_⟩;refine⟨?_,?_⟩
 ·show _=aQ _ _ _
  rw [Bn];rfl
 ·have h9:=lc harr
  rw [Bn]at h9
  exact h9
end
variable{fn:Func}
theorem FT{c:Code}{ts:List Ty}{N:Nat}{O1:List OE}{ι:Type}{t:ι→Ty}{O2:ι→List OE}(hf:P.funcs[f]? =some fn)(hb:fn.body=some c)(hN:fn.ntmps=N)(hn:Nat.ble ts.length N=true)(h: ∀w0 S0,CG ⟨P,⟨N,[]⟩,tz O1,w0,S0,none⟩ (bodyPostM (fw none) 0 P fn (He ⟨P,⟨N,[]⟩,tz O1,w0,S0,none⟩ O1 t O2)) c O1 (nZ 0 ts)):cy P f ts O1 t O2:=by
 subst hN
 intro w S vs hs hv ho
 exact fW.1 (callsIn_of_wp_marks (F:=fw none) (n:=0) hf hb trivial (h w S _ w S ⟨d6.refl _ _ _,hs,gu ho fun f hf k hk=> .inr ⟨f,hf,hk⟩,i6 hv _ (ko hn)⟩))
def EY(x y c:Int):Option (Int×Int):=if 0≤x∧0≤y∧0≤c∧c≤1 then some ((x+y+c)%18446744073709551616,(x+y+c)/18446744073709551616)else none
variable{ats:Array TypeId}{dst:Option Tmp}
section
theorem B0{s u c:Int}{R:Int×Int}{x z:Operand}(hf:E.P.funcs[f]? =some fn)(hname:(fn.name== "runtime.NumGoroutine")=false)(hb:fn.body.isNone=true)(hn:Extern.findNext fn=none)(he:Extern.find fn=some add64Entry)(hx:aH E.N G x (tD (rI .u64) s))(hy:aH E.N G y (tD (rI .u64) u))(hz:aH E.N G z (tD (rI .u64) c))(h:EY s u c=some R):
  bB E O G ⟨dst,.call ⟨.value (.func f),#[x,y,z],ats⟩,ty,pos,after,g⟩ (tT [tD (rI .u64) R.1,tD (rI .u64) R.2]):= .of_pure fun a w S _ _ hF=>by
 have h1:a.eval x= .int .u64 s:=cq.1 (hx S a hF)
 have h2:a.eval y= .int .u64 u:=cq.1 (hy S a hF)
 have h5:a.eval z= .int .u64 c:=cq.1 (hz S a hF)
 unfold EY at h
 split at h
 ·rename_i hc
  cases h
  refine⟨.tuple #[.int .u64 ((s+u+c)%18446744073709551616),.int .u64 ((s+u+c)/18446744073709551616)],?_,[_,_],rfl,cq.2 rfl,cq.2 rfl,trivial⟩
  have h3:=run_callFunc_extern hf hname hb hn he #[.int .u64 s,.int .u64 u,.int .u64 c] w
  rw [run_add64 s u c hc.1 hc.2.1 hc.2.2.1 hc.2.2.2]at h3
  have h0:a.eval (.func f)= .func (.func f) #[] #[]:=rfl
  simp [execOp,resolve,h0,Deferred.ofValue,invoke,h1,h2,h5,h3,Result.andThen]
 ·cases h
end

theorem J{α:Sort _}{a:α}:a=a:=rfl
theorem aP:True:=trivial
abbrev bu(x:Int):Ty:=tD (rI .i64) x
abbrev er(x:Bool):Ty:=tD rB x
abbrev fC{α:Type}(l:List α):Ty:=tD (rI .i64) (l.length:Int)
abbrev jG:Rp (List Int):=ea (rI .i64)
abbrev iA(l:List Int):Ty:=tD (ea (rI .i64)) l
abbrev bK{α:Type}(r:Rp α)(l:List α):Ty:=tD (ea r) l
abbrev mp{α:Type}(l:Option Nat)(c:Nat)(xs:List α):Ty:=tV (aQ l c xs.length)
theorem bh: ∀{G' G:iO},G'.map (fun p=>look G p.1)=G'.map (fun p=>some p.2)→C2 G' G
 |[],_,_=>trivial
 |(_,_)::_,_,h=>⟨(List.cons.inj h).1,bh (List.cons.inj h).2⟩

section
theorem cr{x:Nat}{t:Ty}(h:look G x=some t):bB E O G ⟨dst,.move (.tmp x),ty,pos,after,g⟩ t:=br (ht h)
theorem pe{x:Nat}{t:Ty}(h:look G x=some t):bB E O G ⟨dst,.assign (.tmp x),ty,pos,after,g⟩ t:=aD (ht h)
theorem bO{n:Int}:bB E O G ⟨dst,.assign (.const (.int k n)),ty,pos,after,g⟩ (tD (rI k) n):=aD hI
theorem ef:bB E O G ⟨dst,.assign (.const (.bool b)),ty,pos,after,g⟩ (tD rB b):=aD hB
theorem bn{x:α}{U:TypeId}{p:Nat}(ti:TI E.P U sz bytes agg z)(hp:look G p=some (bv r x))(hs:(r.sz,r.agg)=(sz,agg)):
  bB E O G ⟨dst,.load U (.tmp p),ty,pos,after,g⟩ (tD r x):=bj ti (Prod.mk.inj hs).1 (Prod.mk.inj hs).2 (ht hp)
theorem bS{get:α→β}{x:α}{p:Nat}(hf:bR E.P T i=some (off,sz))(hq:kl r off q get)(hp:look G p=some (bv r x))(h0:(!(Nat.beq sz 0)&&Nat.ble (off+q.sz) r.sz)=true):bB E O G ⟨dst,.fieldAddr T (.tmp p) i,ty,pos,after,g⟩ (bv q (get x)):=
 nk hf (by cases h:Nat.beq sz 0<;>simp [h]at h0 ⊢) hq (by revert h0;cases Nat.ble (off+q.sz) r.sz<;>simp) (ht hp)
theorem eH{x:Nat}(hu:E.P.underlying t=some (.slice e))(hx:look G x=some (tD (ea r) xs)):
  bB E O G ⟨dst,.call ⟨.builtin .len,#[.tmp x],#[t]⟩,ty,pos,after,g⟩ (tD (rI .i64) (xs.length:Int)):=cD hu (ht hx)
theorem eT{ts:List Ty}{x:Nat}{t:Ty}(hi:ts[i]? =some t)(hx:look G x=some (tT ts)):bB E O G ⟨dst,.extract (.tmp x) i,ty,pos,after,g⟩ t:=xR hi (ht hx)
theorem ff{v:α}{x:Nat}(hx:look G x=some (tD r v)):bB E O G ⟨dst,.box T (.tmp x),ty,pos,after,g⟩ (bv r v):=Dr (ht hx)
theorem ms{x:Nat}{q:Bool}(hc:look G c=some (tD rB b))(hx:look G x=some (kI b (tD rB q))):bB E O G ⟨dst,.pick (.tmp c) (.tmp x) (.const (.bool false)),ty,pos,after,g⟩ (tD rB (b&&q)):=kL (ht hc) (fun hb=>bk hx hb)
theorem qY{x:Nat}{q:Bool}(hc:look G c=some (tD rB b))(hx:look G x=some (kI (!b) (tD rB q))):bB E O G ⟨dst,.pick (.tmp c) (.const (.bool true)) (.tmp x),ty,pos,after,g⟩ (tD rB (b||q)):=pI (ht hc) (fun hb=>bk hx (mU hb))
variable{xt yt:TypeId}{x y:Nat}{m n:Int}
theorem dC(hx:look G x=some (tD (rI k) m))(hy:look G y=some (tD (rI k) n)):bB E O G ⟨dst,.binOp .lss xt (.tmp x) (.tmp y) yt,ty,pos,after,g⟩ (tD rB (decide (m<n))):=dO (ht hx) (ht hy)
theorem io{j:IntKind}(hx:look G x=some (tD (rI j) m)):bB E O G ⟨dst,.binOp .eql xt (.tmp x) (.const (.int j n)) yt,ty,pos,after,g⟩ (tD rB (m==n)):=cA (ht hx) hI
theorem pt{j:IntKind}(hx:look G x=some (tD (rI j) m)):bB E O G ⟨dst,.binOp .neq xt (.tmp x) (.const (.int j n)) yt,ty,pos,after,g⟩ (tD rB (m !=n)):=dc (ht hx) hI
theorem gw{y:α}{x ix:Nat}{k:IntKind}{i:Int}(hu:E.P.underlying t=some (.slice e))(ti:TI E.P e sz bytes agg z)(hsz:r.sz=sz)(hx:look G x=some (tD (ea r) xs))(hi:look G ix=some (tD (rI k) i))(hy:fm xs i=some y):
  bB E O G ⟨dst,.indexAddr t (.tmp x) (.tmp ix),ty,pos,after,g⟩ (bv r y):=bf hu ti hsz (ht hx) (ht hi) hy
theorem iq{x:Nat}{xt yt:TypeId}(hi:i<9223372036854775807)(hx:look G x=some (tD (rI .i64) (i:Int))):
  bB E O G ⟨dst,.binOp .add xt (.tmp x) (.const (.int .i64 1)) yt,ty,pos,after,g⟩ (tD (rI .i64) ((i+1:Nat):Int)):=sj hi (ht hx) hI
theorem gQ{b o:Nat}{p:Nat}(n:Nat)(hf:bR E.P T i=some (off,sz))(h0:Nat.beq sz 0=false)(hp:look G p=some (tV (aO b o)))(he:o+off=n):bB E O G ⟨dst,.fieldAddr T (.tmp p) i,ty,pos,after,g⟩ (tV (aO b n)):=kw (n:=n) hf h0 (ht hp) he
end
variable{op:Op}{ops:Array Oper}
section
variable{l:List Oper}
theorem zo{t:Ty}(hd:Nat.blt d E.N.n=true)(h:bB E O G ⟨some d,op,ty,pos,after,none⟩ t)(k:RG E ops Q l O ((d,t)::G)):
  RG E ops Q (⟨some d,op,ty,pos,after,none⟩::l) O G:=lA h hd k
def KC(n d:Nat)(r:Option Ty):Option Ty:=if Nat.blt d n then r else none
theorem hU{r:Option Ty}{t:Ty}(h:KC n d r=some t):Nat.blt d n=true∧r=some t:=by
 unfold KC at h;split at h
 case isTrue h1=>exact⟨h1,h⟩
 case isFalse=>cases h
theorem aB{x:Nat}{t:Ty}(h:KC E.N.n d (look G x)=some t)(k:RG E ops Q l O ((d,t)::G)):
  RG E ops Q (⟨some d,.move (.tmp x),ty,pos,after,none⟩::l) O G:=lA (br (ht (hU h).2)) (hU h).1 k
theorem ba{x:Nat}{t:Ty}(h:KC E.N.n d (look G x)=some t)(k:RG E ops Q l O ((d,t)::G)):
  RG E ops Q (⟨some d,.assign (.tmp x),ty,pos,after,none⟩::l) O G:=lA (aD (ht (hU h).2)) (hU h).1 k
theorem al{y:Code}(h:CG E Q y O G):RG E ops (Exit.then (y.wpIn (fw E.r) 0 E.P Q) Q) [] O G:=aL (ak h)
theorem ap{id:Nat}{l:List Oper}{y:Code}(h:RG E l.toArray (Exit.then (y.wpIn (fw E.r) 0 E.P Q) Q) l O G):CG E Q (.seq (.region id l.toArray false) y) O G:=ae (an h)
theorem bX{β:Type _}{X Y:Option β}{r:β}{x y:Code}(h:(if b=true then X else Y)=some r)(hb:look G c=some (tD rB b))(hx:X=some r→CG E Q x O G)(hy:Y=some r→CG E Q y O G):CG E Q (.cond (.tmp c) x y) O G:=
 kE (ht hb) (fun hc=>hx (ct h hc)) (fun hc=>hy (cf h hc))
theorem cF{y:Code}(h:CG E Q y O G):CG E (Exit.then (y.wpIn (fw E.r) 0 E.P Q) Q) .skip O G:=bi (ak h)
theorem cd{j gs:Nat}{t:Ty}(hj:(ops[j]?).bind (·.dst)=some gs)(hg:KC E.N.n gs (KC E.N.n d (look G gs))=some (tD rB b))(h:b=true→bB E O G ⟨some d,op,ty,pos,after,some (j,true)⟩ t)(k:RG E ops Q l O ((d,kI b t)::G)):RG E ops Q (⟨some d,op,ty,pos,after,some (j,true)⟩::l) O G:=Kr hj (hU hg).1 (hU (hU hg).2).2 (hU (hU hg).2).1 h k
theorem dv{j gs:Nat}{t:Ty}(hj:(ops[j]?).bind (·.dst)=some gs)(hg:KC E.N.n gs (KC E.N.n d (look G gs))=some (tD rB b))(h:(!b)=true→bB E O G ⟨some d,op,ty,pos,after,some (j,false)⟩ t)(k:RG E ops Q l O ((d,kI (!b) t)::G)):RG E ops Q (⟨some d,op,ty,pos,after,some (j,false)⟩::l) O G:=Ks hj (hU hg).1 (hU (hU hg).2).2 (hU (hU hg).2).1 h k
end
theorem bp{α:Type _}{β:Type _}{x:Option α}{k:α→Option β}{r:β}{P:Prop}(h:x.bind k=some r)(f: ∀y,x=some y→k y=some r→P):P:=by
 obtain⟨y,h1,h2⟩:=bs h;exact f y h1 h2
variable{u1:Ty}
section
variable{l:List Oper}{ts:List Ty}{t:Ty}
theorem wL{a c:Bool}(h:(a&&b&&c)=true):a=true∧b=true∧c=true:=by revert h;cases a<;>cases b<;>cases c<;>simp
theorem M4{x:Option α}(h:x.isNone=true):x=none:=by cases x;rfl;cases h
theorem Fg(h:ts[i]? =some t)(hb:(dF i o&&o.guard.isNone)=true)(k:bB E O [] o t): ∃(needs:List Nd) (t:Ty),ts[i]? =some t∧oF G ts needs∧(needs.all (ld l o i))=true∧dF i o=true∧bJ E O l.toArray (gj needs) o t:=
 ⟨[],t,h,trivial,rfl,(Bm.1 hb).1,aA (M4 (Bm.1 hb).2) k⟩
theorem dp(a:Nat)(h:ts[i]? =some t)(hu:r9 G ts ⟨a,u,none⟩)(hb:([(⟨a,u,none⟩:Nd)].all (ld l o i)&&dF i o&&o.guard.isNone)=true)(k:bB E O [(a,u)] o t): ∃(needs:List Nd) (t:Ty),ts[i]? =some t∧oF G ts needs∧(needs.all (ld l o i))=true∧dF i o=true∧bJ E O l.toArray (gj needs) o t:=
 ⟨[(⟨a,u,none⟩:Nd)],t,h,⟨hu,trivial⟩,(wL hb).1,(wL hb).2.1,aA (M4 (wL hb).2.2) k⟩
theorem bH(a:Nat)(j:Nat)(h:ts[i]? =some t)(hu:r9 G ts ⟨a,u,(some j)⟩)(hb:([(⟨a,u,(some j)⟩:Nd)].all (ld l o i)&&dF i o&&o.guard.isNone)=true)(k:bB E O [(a,u)] o t): ∃(needs:List Nd) (t:Ty),ts[i]? =some t∧oF G ts needs∧(needs.all (ld l o i))=true∧dF i o=true∧bJ E O l.toArray (gj needs) o t:=
 ⟨[(⟨a,u,(some j)⟩:Nd)],t,h,⟨hu,trivial⟩,(wL hb).1,(wL hb).2.1,aA (M4 (wL hb).2.2) k⟩
theorem jI(a:Nat)(a1:Nat)(j1:Nat)(h:ts[i]? =some t)(hu:r9 G ts ⟨a,u,none⟩)(hu1:r9 G ts ⟨a1,u1,(some j1)⟩)(hb:([(⟨a,u,none⟩:Nd),⟨a1,u1,(some j1)⟩].all (ld l o i)&&dF i o)=true)(k:bJ E O l.toArray [(a,u),(a1,u1)] o t): ∃(needs:List Nd) (t:Ty),ts[i]? =some t∧oF G ts needs∧(needs.all (ld l o i))=true∧dF i o=true∧bJ E O l.toArray (gj needs) o t:=
 ⟨[(⟨a,u,none⟩:Nd),⟨a1,u1,(some j1)⟩],t,h,⟨hu,hu1,trivial⟩,(Bm.1 hb).1,(Bm.1 hb).2,k⟩
theorem cO(a:Nat)(j:Nat)(a1:Nat)(j1:Nat)(h:ts[i]? =some t)(hu:r9 G ts ⟨a,u,(some j)⟩)(hu1:r9 G ts ⟨a1,u1,(some j1)⟩)(hb:([(⟨a,u,(some j)⟩:Nd),⟨a1,u1,(some j1)⟩].all (ld l o i)&&dF i o&&o.guard.isNone)=true)(k:bB E O [(a,u),(a1,u1)] o t): ∃(needs:List Nd) (t:Ty),ts[i]? =some t∧oF G ts needs∧(needs.all (ld l o i))=true∧dF i o=true∧bJ E O l.toArray (gj needs) o t:=
 ⟨[(⟨a,u,(some j)⟩:Nd),⟨a1,u1,(some j1)⟩],t,h,⟨hu,hu1,trivial⟩,(wL hb).1,(wL hb).2.1,aA (M4 (wL hb).2.2) k⟩
theorem fk(a:Nat)(j:Nat)(a1:Nat)(j1:Nat)(h:ts[i]? =some t)(hu:r9 G ts ⟨a,u,(some j)⟩)(hu1:r9 G ts ⟨a1,u1,(some j1)⟩)(hb:([(⟨a,u,(some j)⟩:Nd),⟨a1,u1,(some j1)⟩].all (ld l o i)&&dF i o)=true)(k:bJ E O l.toArray [(a,u),(a1,u1)] o t): ∃(needs:List Nd) (t:Ty),ts[i]? =some t∧oF G ts needs∧(needs.all (ld l o i))=true∧dF i o=true∧bJ E O l.toArray (gj needs) o t:=
 ⟨[(⟨a,u,(some j)⟩:Nd),⟨a1,u1,(some j1)⟩],t,h,⟨hu,hu1,trivial⟩,(Bm.1 hb).1,(Bm.1 hb).2,k⟩
theorem y9(a:Nat)(j:Nat)(a1:Nat)(j1:Nat)(a2:Nat)(j2:Nat){u2:Ty}(h:ts[i]? =some t)(hu:r9 G ts ⟨a,u,(some j)⟩)(hu1:r9 G ts ⟨a1,u1,(some j1)⟩)(hu2:r9 G ts ⟨a2,u2,(some j2)⟩)(hb:([(⟨a,u,(some j)⟩:Nd),⟨a1,u1,(some j1)⟩,⟨a2,u2,(some j2)⟩].all (ld l o i)&&dF i o&&o.guard.isNone)=true)(k:bB E O [(a,u),(a1,u1),(a2,u2)] o t): ∃(needs:List Nd) (t:Ty),ts[i]? =some t∧oF G ts needs∧(needs.all (ld l o i))=true∧dF i o=true∧bJ E O l.toArray (gj needs) o t:=
 ⟨[(⟨a,u,(some j)⟩:Nd),⟨a1,u1,(some j1)⟩,⟨a2,u2,(some j2)⟩],t,h,⟨hu,hu1,hu2,trivial⟩,(wL hb).1,(wL hb).2.1,aA (M4 (wL hb).2.2) k⟩
theorem kr(a:Nat)(j:Nat)(a1:Nat)(j1:Nat)(a2:Nat)(j2:Nat){u2:Ty}(h:ts[i]? =some t)(hu:r9 G ts ⟨a,u,(some j)⟩)(hu1:r9 G ts ⟨a1,u1,(some j1)⟩)(hu2:r9 G ts ⟨a2,u2,(some j2)⟩)(hb:([(⟨a,u,(some j)⟩:Nd),⟨a1,u1,(some j1)⟩,⟨a2,u2,(some j2)⟩].all (ld l o i)&&dF i o)=true)(k:bJ E O l.toArray [(a,u),(a1,u1),(a2,u2)] o t): ∃(needs:List Nd) (t:Ty),ts[i]? =some t∧oF G ts needs∧(needs.all (ld l o i))=true∧dF i o=true∧bJ E O l.toArray (gj needs) o t:=
 ⟨[(⟨a,u,(some j)⟩:Nd),⟨a1,u1,(some j1)⟩,⟨a2,u2,(some j2)⟩],t,h,⟨hu,hu1,hu2,trivial⟩,(Bm.1 hb).1,(Bm.1 hb).2,k⟩
end

def sl{α:Type}(cmp:α×α→Option Int)(x y:α):Bool:=
 match cmp (x,y)with
 |some c=>decide (c<0)
 |none=>false
def FB{α:Type}(lt:α→α→Bool)(x:α):List α→List α
 |[]=>[x]
 |y::ys=>if lt y x then y::FB lt x ys else x::y::ys
def zy{α:Type}(lt:α→α→Bool):List α→List α
 |[]=>[]
 |x::xs=>FB lt x (zy lt xs)
structure CA{α:Type}(cmp:α×α→Option Int)(xs:List α):Prop where
 len:xs.length≤1099511627776
 tot: ∀x∈xs,∀y∈xs,(cmp (x,y)).isSome=true
 irr: ∀x∈xs,sl cmp x x=false
 tr: ∀x∈xs,∀y∈xs,∀z∈xs,sl cmp x y=true→sl cmp y z=true→sl cmp x z=true
 anti: ∀x∈xs,∀y∈xs,sl cmp x y=false→sl cmp y x=false→x=y
def GM{α:Type} [DecidableEq α](cmp:α×α→Option Int)(xs:List α):Bool:=
 decide (xs.length≤1099511627776)&&xs.all (fun x=>xs.all fun y=>(cmp (x,y)).isSome)&&xs.all (fun x=> !sl cmp x x)&&
  xs.all (fun x=>xs.all fun y=>xs.all fun z=> !(sl cmp x y&&sl cmp y z)||sl cmp x z)&&xs.all (fun x=>xs.all fun y=>sl cmp x y||sl cmp y x||decide (x=y))
variable{cmp:α×α→Option Int}
theorem GL [DecidableEq α]:GM cmp xs=true↔CA cmp xs:=by
 unfold GM
 simp only [km,kH,Ac,yD,gU,Bool.and_eq_false_imp]
 constructor
 ·rintro⟨⟨⟨⟨h1,h2⟩,h3⟩,h4⟩,h5⟩
  refine⟨h1,h2,h3,fun x hx y hy z hz a b=>?_,fun x hx y hy a b=>?_⟩
  ·rcases h4 x hx y hy z hz with h|h
   ·rw [h a]at b;cases b
   ·exact h
  ·rcases h5 x hx y hy with(h|h)|h
   ·rw [h]at a;cases a
   ·rw [h]at b;cases b
   ·exact h
 ·rintro⟨h1,h2,h3,h4,h5⟩
  refine⟨⟨⟨⟨h1,h2⟩,h3⟩,fun x hx y hy z hz=>?_⟩,fun x hx y hy=>?_⟩
  ·cases h6:sl cmp x y with
   |false=>exact .inl (fun h=>by cases h)
   |true=>
    cases h7:sl cmp y z with
    |false=>exact .inl (fun _=>rfl)
    |true=>exact .inr (h4 x hx y hy z hz h6 h7)
  ·cases h6:sl cmp x y with
   |true=>exact .inl (.inl rfl)
   |false=>
    cases h7:sl cmp y x with
    |true=>exact .inl (.inr rfl)
    |false=>exact .inr (h5 x hx y hy h6 h7)
def xu{α:Type} [DecidableEq α](cmp:α×α→Option Int)(xs:List α):Option (List α):=if GM cmp xs then some (zy (sl cmp) xs)else none
theorem C4 [DecidableEq α](h:xu cmp xs=some ys):CA cmp xs∧ys=zy (sl cmp) xs:=by
 unfold xu at h
 split at h
 ·exact⟨GL.1 (by assumption),by simpa using h.symm⟩
 ·cases h
def sortI(xs:List Int):List Int:=xs.mergeSort fun x y=>decide (x≤y)
theorem ze(xs:List Int):(sortI xs).length=xs.length:=by unfold sortI;simp
def Aq(xs:List Int):Option (List Int):=if xs.length≤68719476736 then some (sortI xs)else none
theorem BF{xs ys:List Int}(h:Aq xs=some ys):xs.length≤68719476736∧ys=sortI xs:=by
 unfold Aq at h
 split at h
 ·exact⟨by assumption,by simpa using h.symm⟩
 ·cases h

theorem vv{α:Type}(lt:α→α→Bool)(x:α): ∀l:List α,(FB lt x l).Perm (x::l)
 |[]=> .refl _
 |y::ys=>by
  unfold FB
  split
  ·exact((vv lt x ys).cons y).trans (.swap ..)
  ·exact .refl _
theorem tw{α:Type}(lt:α→α→Bool): ∀l:List α,(zy lt l).Perm l
 |[]=> .refl _
 |x::xs=>(vv lt x _).trans ((tw lt xs).cons x)
theorem CA.ntr(h:CA cmp xs){x y z:α}(hx:x∈xs)(hy:y∈xs)(hz:z∈xs)(h1:sl cmp x y=false)(h2:sl cmp y z=false):sl cmp x z=false:=by
 cases h3:sl cmp x z with
 |false=>rfl
 |true=>
  cases h4:sl cmp y x with
  |true=>rw [h.tr y hy x hx z hz h4 h3]at h2;cases h2
  |false=>
   have:=h.anti x hx y hy h1 h4
   subst this
   rw [h3]at h2;cases h2
theorem CA.asym(h:CA cmp xs){x y:α}(hx:x∈xs)(hy:y∈xs)(h1:sl cmp x y=true):sl cmp y x=false:=by
 cases h3:sl cmp y x with
 |false=>rfl
 |true=>have:=h.tr x hx y hy x hx h1 h3;rw [h.irr x hx]at this;cases this
theorem wa{α:Type}{cmp:α×α→Option Int}{xs:List α}(h:CA cmp xs){x:α}(hx:x∈xs): ∀l:List α,(∀y∈l,y∈xs)→l.Pairwise (fun a b=>sl cmp b a=false)→(FB (sl cmp) x l).Pairwise (fun a b=>sl cmp b a=false)
 |[],_,_=>List.pairwise_singleton _ _
 |y::ys,hm,hp=>by
  have hy:=hm y (gV ..)
  rw [List.pairwise_cons]at hp
  unfold FB
  split
  ·rename_i hlt
   rw [List.pairwise_cons]
   refine⟨fun z hz=>?_,wa h hx ys (fun z hz=>hm z (mS _ hz)) hp.2⟩
   rcases gc.1 ((vv _ x ys).mem_iff.1 hz)with e|e
   ·subst e;exact h.asym hy hx hlt
   ·exact hp.1 z e
  ·rename_i hlt
   rw [tX]at hlt
   refine List.pairwise_cons.2 ⟨fun z hz=>?_,List.pairwise_cons.2 hp⟩
   rcases gc.1 hz with e|e
   ·subst e;exact hlt
   ·exact h.ntr (hm z hz) hy hx (hp.1 z e) hlt
theorem uy{α:Type}{cmp:α×α→Option Int}{xs:List α}(h:CA cmp xs): ∀l:List α,(∀y∈l,y∈xs)→(zy (sl cmp) l).Pairwise (fun a b=>sl cmp b a=false)
 |[],_=>List.Pairwise.nil
 |x::ys,hm=>wa h (hm x (gV ..)) _ (fun y hy=>hm y (mS _ ((tw _ ys).mem_iff.1 hy))) (uy h ys fun y hy=>hm y (mS _ hy))
open Go.Sort Go.Shelf

structure E7{α:Type}(r:Rp α)(S:SH)(XS:List α):Type where
 v:Value
 x:α
 h:r.rc S [v] x
 m:x∈XS
theorem Nr{α:Type}{r:Rp α}(h1:r.sz=1){S:SH}{XS:List α}: ∀{xs:List α} {cs:List Value},oS r S cs xs→(∀x∈xs,x∈XS)→ ∃d:List (E7 r S XS),d.map E7.v=cs∧d.map E7.x=xs
 |[],cs,h,_=>⟨[],by rw [show cs=[]from h];rfl,rfl⟩
 |x::xs,cs,⟨a,b,e,h2,h3⟩,hm=>by
  obtain⟨d,e1,e2⟩:=Nr h1 h3 fun y hy=>hm y (mS _ hy)
  have hl:=r.len h2
  rw [h1]at hl
  obtain⟨v,rfl⟩:=List.length_eq_one_iff.1 hl
  exact⟨⟨v,x,h2,hm x (gV ..)⟩::d,by rw [e,wu,e1];rfl,by rw [wu,e2]⟩
theorem zG{α:Type}{r:Rp α}{S:SH}{XS:List α}: ∀d:List (E7 r S XS),oS r S (d.map E7.v) (d.map E7.x)
 |[]=>rfl
 |p::d=>⟨[p.v],_,rfl,p.h,zG d⟩
variable{os:Array Obj}
theorem uC{k:Nat}(h:k<w.heap.size):(grow w os).heap[k]? =w.heap[k]? :=by
 unfold grow;exact Array.getElem?_append_left h
theorem B9 [Inhabited α]{enc:α→Value}{b:Nat}{d:Array α}{k:Nat}(h:k≠b):(putRow enc w b off d).heap[k]? =w.heap[k]? :=by
 unfold putRow mapBlock
 rw [Array.getElem?_modify,cZ (Ne.symm h)]
theorem ln [Inhabited α]{enc:α→Value}{b m:Nat}{d:Array α}{k:Nat}(hk:k<w.heap.size)(h:k≠b):(sortWorld enc w b off m d os).heap[k]? =w.heap[k]? :=by
 unfold sortWorld
 rw [uC (by rw [size_putRow];exact hk),B9 h];rfl
theorem uB [Inhabited α]{enc:α→Value}{b m:Nat}{d:Array α}{c:Array Value}{fr:Nat×Nat}(h:w.heap[b]? =some (.cells c T fr)):
  (sortWorld enc w b off m d os).heap[b]? =some (.cells (putCells enc off d c) T fr):=by
 have hlt:=(oK.1 h).1
 unfold sortWorld
 rw [uC (by rw [size_putRow];exact hlt)]
 unfold putRow mapBlock
 rw [Array.getElem?_modify,c9 rfl]
 show Option.map _ (w.heap[b]?)=_
 rw [h];rfl
theorem sU [Inhabited α]{enc:α→Value}{d:Array α}{c:Array Value}(h:d.size≤c.size):(putCells enc 0 d c).toList.take d.size=d.toList.map enc:=by
 apply List.ext_getElem?
 intro k
 by_cases hk:k<d.size
 ·rw [xd hk]
  have hc:k<c.size:=by omega
  simp [putCells,hc,hk]
 ·rw [Fc (by simp;omega),Fc (by simp;omega)]
theorem FH{w' :World}(h:d6 kV w S w' S'): ∃q os,w' =grow (w.drewN q) os:=by
 refine⟨w'.drawn-w.drawn,w'.heap.extract w.heap.size w'.heap.size,?_⟩
 obtain⟨hp,t,dr,os,out⟩:=w'
 have h1:hp=w.heap++hp.extract w.heap.size hp.size:=by
  apply Array.ext_getElem?
  intro k
  have hs:=h.size
  simp only at hs
  by_cases hk:k<w.heap.size
  ·rw [Array.getElem?_append_left hk];exact h.heap k hk (fun h=>h)
  ·rw [Array.getElem?_append_right (by omega),Array.getElem?_extract]
   split
   ·congr 1;omega
   ·rename_i hlt
    rw [Array.getElem?_eq_none];omega
 have h2:=h.os;have h3:=h.tape;have h4:=h.output;have h5:=h.drawn
 simp only at h2 h3 h4 h5
 subst h2 h3 h4
 unfold grow World.drewN
 simp only
 congr 1
 omega

variable{ρ:Ren}
theorem Gp(L:SlLaysF.n6 P ρ) [DecidableEq α](hag:r.agg=false){l:Option Nat}{fv:Value}(hs:ft w S)(h:(dJ r T l cap xs).p w S)(hfv:(cB P (fun p:α×α=>[tD r p.1,tD r p.2]) (tD (rI .i64)) cmp).p S fv)(hy:xu cmp xs=some ys):
  Calls P (ρ.f 6) #[aQ l cap xs.length,fv] w fun e w' =>e= .returned (.tuple #[])∧d6 (fun k=>l=some k) w S w' S∧ft w' S∧(dJ r T l cap ys).p w' S∧ys.length=xs.length:=by
 obtain⟨hG,hys⟩:=C4 hy
 have hperm:ys.Perm xs:=by rw [hys];exact tw _ xs
 have hlen:=hperm.length_eq
 have none' :xs=[]→Calls P (ρ.f 6) #[aQ l cap xs.length,fv] w fun e w' =>e= .returned (.tuple #[])∧d6 (fun k=>l=some k) w S w' S∧ft w' S∧(dJ r T l cap ys).p w' S∧ys.length=xs.length:=by
  intro hx
  subst hx
  have e:ys=[]:=by rw [hys];rfl
  subst e
  cases l with
  |none=>exact(AnyF.slices_SortFunc_none (P:=P) (ρ:=ρ) {L with} none 0 fv w).mono fun _ _ ⟨h1,h2⟩=>by subst h2;exact⟨h1,d6.refl _ _ _,hs,h,rfl⟩
  |some b=>exact(AnyF.slices_SortFunc_none (P:=P) (ρ:=ρ) {L with} (some ⟨b,0,none⟩) cap fv w).mono fun _ _ ⟨h1,h2⟩=>by subst h2;exact⟨h1,d6.refl _ _ _,hs,h,rfl⟩
 cases l with
 |none=>exact none' (ve (by obtain⟨_,h4,_⟩:=h;exact h4.1))
 |some b=>
  obtain⟨cells0,⟨cur,hb,hle,hmax,hcs,hct⟩,hrc,hno0⟩:=h
  have hno:S b=none:=hno0 b rfl
  subst hct
  have h1:=r.sc hag
  rw [h1,Nat.mul_one]at hcs hrc
  obtain⟨d,Qf,Il⟩:=Nr h1 hrc (fun x hx=>hx)
  have hdl:d.length=xs.length:=by have:=congrArg List.length Il;simpa using this
  cases hxs:xs with
  |nil=>rw [←hxs];exact none' hxs
  |cons x0 xs0=>
  rw [←hxs]
  have hne:0<d.length:=by rw [hdl,hxs];simp
  haveI:Inhabited (E7 r S xs):=⟨d[0]⟩
  obtain⟨g,cb,rfl,hcal,hsp⟩:=hfv
  let enc:E7 r S xs→Value:=E7.v
  let cf:E7 r S xs→E7 r S xs→Int:=fun p q=>(cmp (p.x,q.x)).getD 0
  have hcf: ∀p q,cmp (p.x,q.x)=some (cf p q):=fun p q=>by
   have:=hG.tot _ p.m _ q.m
   obtain⟨c,hc⟩:=Option.isSome_iff_exists.1 this
   show _=some ((cmp (p.x,q.x)).getD 0)
   rw [hc];rfl
  have hlt: ∀p q,ltOf cf p q=sl cmp p.x q.x:=fun p q=>by
   unfold ltOf sl;rw [hcf p q]
  have hO:SWO (ltOf cf):=⟨fun x=>by rw [hlt];exact hG.irr _ x.m,fun x y z a b=>by rw [hlt]at*;exact hG.tr _ x.m _ y.m _ z.m a b,fun x y z a b=>by rw [hlt]at*;exact hG.ntr x.m y.m z.m a b⟩
  have hblk:=(oK.1 hb).1
  have hcmp:CmpLays1 P g cb enc cf b 0 d.toArray.size w:=by
   intro m os dk hdk x y
   have hsat:ft (sortWorld enc w b 0 m dk os) S:=hs.same fun k o hk=>by
    have hkb:k≠b:=fun e=>by subst e;rw [hno]at hk;cases hk
    exact ln (hs.lt hk) hkb
   have:=hsp (x.x,y.x) _ (hcf x y) _ S [x.v,y.v] (SH.le_refl _) hsat ⟨⟨_,by unfold Rp.val;rw [hag];rfl,x.h⟩,⟨_,by unfold Rp.val;rw [hag];rfl,y.h⟩,trivial⟩
   refine this.mono fun e w' ⟨v,S'',he,hext,_,hv⟩=>⟨by rw [he,cq.1 hv],FH hext⟩
  have hsz:d.toArray.size=xs.length:=by simpa using hdl
  have hH:Holds enc w b 0 d.toArray:=by
   intro j hj
   have hj' :j<d.length:=by simpa using hj
   have hc:cur[j]? =some (enc d.toArray[j]!):=by
    have:(cur.toList.take xs.length)[j]? =some (enc d.toArray[j]!):=by
     rw [←Qf,CO,getElem!_pos d.toArray j hj]
     simp [hj',enc]
    rw [xd (by omega)]at this
    simpa using this
   refine⟨by simp [World.cell?,hb,hc],?_⟩
   simp [World.frozen?,hb]
  have hcall:=Any.slices_SortFunc L enc (fun p=>r.one p.h _ (D9 _)) cf hO g cb b 0 cap d.toArray w (fun args w=>dq hcal args w) hcmp hH hblk (by rw [hsz];have:=hG.len;omega)
  rw [hsz]at hcall
  refine hcall.mono fun e w' ⟨he,d',n,os,⟨hp1,_,hp2⟩,hso,hw⟩=>?_
  have hd's:d'.size=xs.length:=by rw [hp1,hsz]
  have hp3:d'.toList.Perm d:=by
   have e1:d'.extract 0 xs.length=d' :=by rw [←hd's];exact Array.extract_size
   have e2:d.toArray.extract 0 xs.length=d.toArray:=by rw [←hsz];exact Array.extract_size
   rw [e1,e2]at hp2
   simpa using hp2
  have hyd:ys=d'.toList.map E7.x:=by
   have hp4:(d'.toList.map E7.x).Perm xs:=by have:=hp3.map E7.x;rwa [Il]at this
   refine List.Perm.eq_of_pairwise (le:=fun a b=>sl cmp b a=false) ?_ ?_ ?_ (hperm.trans hp4.symm)
   ·intro a c ha hc h5 h6
    exact hG.anti a (hperm.mem_iff.1 ha) c (hp4.mem_iff.1 hc) h6 h5
   ·rw [hys];exact uy hG xs fun y hy=>hy
   ·rw [List.pairwise_iff_getElem]
    intro i j hi hj hij
    have hj' :j<d'.size:=by simpa using hj
    have:=hso i j (gx _) hij (by omega)
    rw [hlt,getElem!_pos d' j hj',getElem!_pos d' i (by omega)]at this
    simpa using this
  subst hw
  refine⟨he,⟨rfl,rfl,rfl,Nat.le_add_right _ _,?_,fun k hk hkb=>ln hk (fun e=>hkb (by rw [e])),SH.le_refl _,fun _ _ _=>rfl⟩,hs.same fun k o hk=>?_,⟨_,⟨_,uB hb,by omega,hmax,?_,rfl⟩,?_,hno0⟩,hlen⟩
  ·unfold sortWorld;rw [size_grow,size_putRow];exact Nat.le_add_right _ _
  ·have hkb:k≠b:=fun e=>by subst e;rw [hno]at hk;cases hk
   exact ln (hs.lt hk) hkb
  ·simp [putCells,h1,hcs]
  ·rw [h1,Nat.mul_one,hlen,←hd's,sU (by omega),hyd]
   exact zG d'.toList

section
theorem yr(L:SlLaysF.n6 E.P ρ)(hf:ρ.f 6=f)(hc:ah E.P f=true) [DecidableEq α](hag:r.agg=false){l:Option Nat}{x:Operand}(hy' :xu cmp xs=some ys)(hx:aH E.N G x (tV (aQ l cap n)))(hn:n=xs.length)(hy:aH E.N G y (cB E.P (fun p:α×α=>[tD r p.1,tD r p.2]) (tD (rI .i64)) cmp))(hd:Nat.blt d E.N.n=true)(k:ys.length=n→RG E ops Q rest (dJ r T l cap ys::O) ((d,wE)::G)):RG E ops Q (⟨some d,.call ⟨.value (.func f),#[x,y],ats⟩,ty,pos,after,none⟩::rest) (dJ r T l cap xs::O) G:= .of rfl fun a w S st=>by
 subst hf
 subst hn
 have h1:a.eval x=aQ l cap xs.length:=hx S a st.facts
 have hr:(execOp a.eval ⟨some d,.call ⟨.value (.func (ρ.f 6)),#[x,y],ats⟩,ty,pos,after,none⟩).run E.P w= .ok (.enter (ρ.f 6) #[aQ l cap xs.length,a.eval y]) w:=by
  have e0:a.eval (.func (ρ.f 6))= .func (.func (ρ.f 6)) #[] #[]:=rfl
  simp [execOp,resolve,e0,h1,Deferred.ofValue,invoke,dq hc]
 refine⟨fun c h=>(by cases h),?_⟩
 rw [hr]
 refine(Gp L hag st.sat st.own.1.1 (hy S a st.facts) hy').mono fun e w' ⟨he,hext,hsat,hp,hlen⟩=>⟨_,he,?_⟩
 have hfp: ∀g∈O,∀b,g.fp b→ ¬(l=some b):=fun g hg b hb hl=>st.own.2.1 g hg b hl hb
 refine k hlen _ _ S ⟨st.ext.step hext (fun c hc=>st.own.1.2 c hc),hsat,⟨⟨hp,st.own.1.2⟩,st.own.2.1,st.own.2.2.ext hext hfp⟩,?_⟩;exact(st.facts.mono hext.keep).put hd trivial
theorem ky{m:Nat}{l:Option Nat}(hl:m=n)(s:Nat)(hs:look G s=some (tV (aQ l cap n)))(k:RG E ops Q rest O ((s,tV (aQ l cap m))::G)):RG E ops Q rest O G:=by
 subst hl
 exact fun a w S st=>k a w S ⟨st.ext,st.sat,st.own,⟨st.facts.size,st.facts.defers,fun j t h=>by
  unfold look at h
  by_cases hb:Nat.beq s j=true
  ·rw [hb]at h
   have:=kp hb
   subst this
   have e:tV (aQ l cap m)=t:=by simpa using h
   rw [←e];exact st.facts.at_ s _ hs
  ·rw [tX]at hb
   rw [hb]at h
   exact st.facts.at_ j t h⟩⟩
end

theorem Ek{k:IntKind}{S:SH}: ∀{xs:List Int} {cs:List Value},oS (rI k) S cs xs→cs=xs.map (Value.int k)
 |[],cs,h=>by rw [show cs=[]from h];rfl
 |x::xs,cs,⟨a,b,e,h1,h2⟩=>by
  rw [e,show a=[.int k x]from h1,Ek h2]
  rfl
theorem Es{k:IntKind}{S:SH}: ∀xs:List Int,oS (rI k) S (xs.map (Value.int k)) xs
 |[]=>rfl
 |x::xs=>⟨[.int k x],_,rfl,rfl,Es xs⟩
theorem Fo(L:Lays.n189 P ρ){l:Option Nat}{xs:List Int}(hlen0:xs.length≤68719476736)(hs:ft w S)(h:(dJ (rI .i64) T l cap xs).p w S):
  Calls P (ρ.f 189) #[aQ l cap xs.length] w fun e w' =>e= .returned (.tuple #[])∧d6 (fun k=>l=some k) w S w' S∧ft w' S∧(dJ (rI .i64) T l cap (sortI xs)).p w' S:=by
 cases l with
 |none=>
  have hx:xs=[]:=ve (by obtain⟨_,h4,_⟩:=h;exact h4.1)
  subst hx
  exact(Any.slices_Sort_int_none (P:=P) (ρ:=ρ) L none 0 w).mono fun _ _ ⟨h1,h2⟩=>by subst h2;exact⟨h1,d6.refl _ _ _,hs,by simpa [sortI] using h⟩
 |some b=>
  obtain⟨cells0,⟨cur,hb,hle,hmax,hcs,hct⟩,hrc,hno0⟩:=h
  have hno:S b=none:=hno0 b rfl
  subst hct
  have h1:(rI .i64).sz=1:=rfl
  rw [h1,Nat.mul_one]at hcs hrc
  have hcells:=Ek hrc
  have hH:Holds (Value.int .i64) w b 0 xs.toArray:=by
   intro j hj
   have hj' :j<xs.length:=by simpa using hj
   have hc:cur[j]? =some (Value.int .i64 xs.toArray[j]!):=by
    have:(cur.toList.take xs.length)[j]? =some (Value.int .i64 xs.toArray[j]!):=by
     rw [hcells,CO,getElem!_pos xs.toArray j hj]
     simp [hj']
    rw [xd (by omega)]at this
    simpa using this
   refine⟨by simp [World.cell?,hb,hc],?_⟩
   simp [World.frozen?,hb]
  have hblk:=(oK.1 hb).1
  have hcall:=calls_of_every_depth fun D=>AnyS.slices_Sort_int_alone (P:=P) (ρ:=ρ) L D b 0 cap xs w hH hblk (by omega)
  refine hcall.mono fun e w' ⟨he,n,os,hw⟩=>?_
  have hlen:=ze xs
  have hw2:w' =sortWorld (Value.int .i64) w b 0 n (sortI xs).toArray os:=hw
  subst hw2
  refine⟨he,⟨rfl,rfl,rfl,Nat.le_add_right _ _,?_,fun k hk hkb=>ln hk (fun e=>hkb (by rw [e])),SH.le_refl _,fun _ _ _=>rfl⟩,hs.same fun k o hk=>?_,⟨_,⟨_,uB hb,by omega,hmax,?_,rfl⟩,?_,hno0⟩⟩
  ·unfold sortWorld;rw [size_grow,size_putRow];exact Nat.le_add_right _ _
  ·have hkb:k≠b:=fun e=>by subst e;rw [hno]at hk;cases hk
   exact ln (hs.lt hk) hkb
  ·simp [putCells,h1,hcs]
  ·have e1:(sortI xs).length*(rI .i64).sz=(sortI xs).toArray.size:=by rw [h1];simp
   rw [e1,sU (by simp;omega)]
   exact Es (sortI xs)
section
theorem HI(L:Lays.n189 E.P ρ)(hf:ρ.f 189=f)(hc:ah E.P f=true){l:Option Nat}{xs ys:List Int}{x:Operand}(hy:Aq xs=some ys)(hx:aH E.N G x (tV (aQ l cap n)))(hn:n=xs.length)(hd:Nat.blt d E.N.n=true)(k:ys.length=n→RG E ops Q rest (dJ (rI .i64) T l cap ys::O) ((d,wE)::G)):RG E ops Q (⟨some d,.call ⟨.value (.func f),#[x],ats⟩,ty,pos,after,none⟩::rest) (dJ (rI .i64) T l cap xs::O) G:= .of rfl fun a w S st=>by
 obtain⟨hl0,rfl⟩:=BF hy
 subst hf
 subst hn
 have h1:a.eval x=aQ l cap xs.length:=hx S a st.facts
 have hr:(execOp a.eval ⟨some d,.call ⟨.value (.func (ρ.f 189)),#[x],ats⟩,ty,pos,after,none⟩).run E.P w= .ok (.enter (ρ.f 189) #[aQ l cap xs.length]) w:=by
  have e0:a.eval (.func (ρ.f 189))= .func (.func (ρ.f 189)) #[] #[]:=rfl
  simp [execOp,resolve,e0,h1,Deferred.ofValue,invoke,dq hc]
 refine⟨fun c h=>(by cases h),?_⟩
 rw [hr]
 refine(Fo L hl0 st.sat st.own.1.1).mono fun e w' ⟨he,hext,hsat,hp⟩=>⟨_,he,?_⟩
 have hfp: ∀g∈O,∀b,g.fp b→ ¬(l=some b):=fun g hg b hb hl=>st.own.2.1 g hg b hl hb
 refine k (ze xs) _ _ S ⟨st.ext.step hext (fun c hc=>st.own.1.2 c hc),hsat,⟨⟨hp,st.own.1.2⟩,st.own.2.1,st.own.2.2.ext hext hfp⟩,?_⟩;exact(st.facts.mono hext.keep).put hd trivial
end
open Go.Lib

theorem ly(hle: ∀(b:Nat) (o:Obj),W.heap[b]? =some o→ ∃o',w.heap[b]? =some o' ∧yR o o'){b:Nat}{v:Value}(h:W.cell? ⟨b,i,none⟩=some v):w.cell? ⟨b,i,none⟩=some v:=by
 unfold World.cell? at h ⊢
 cases hb:W.heap[b]? with
 |none=>simp [hb]at h
 |some o=>
  obtain⟨o',h1,h2⟩:=hle b o hb
  simp only [hb]at h
  simp only [h1]
  cases o with
  |cells c T fr=>
   obtain⟨l,rfl⟩:=h2
   simp only [Option.isSome_none,Bl,s3]at h ⊢
   rw [←Array.getElem?_toList]at h ⊢
   rw [yF (m8.1 h).1]
   exact h
  |_=>simp at h
theorem CB{g:Nat}{T:Array CaseRow}(hle: ∀(b:Nat) (o:Obj),W.heap[b]? =some o→ ∃o',w.heap[b]? =some o' ∧yR o o')(h:CaseVar g T W):CaseVar g T w:=by
 obtain⟨R,oR,cap,h1,h2⟩:=h
 exact⟨R,oR,cap,ly hle h1,fun i hi=>⟨ly hle (h2 i hi).1,ly hle (h2 i hi).2.1,ly hle (h2 i hi).2.2.1,ly hle (h2 i hi).2.2.2.1,ly hle (h2 i hi).2.2.2.2⟩⟩
theorem Ba{g3 g4:Nat}(hle: ∀(b:Nat) (o:Obj),W.heap[b]? =some o→ ∃o',w.heap[b]? =some o' ∧yR o o')(h:Utf8Tabs g3 g4 W):Utf8Tabs g3 g4 w:=
 ⟨fun c hc=>ly hle (h.1 c hc),fun i hi=>⟨ly hle (h.2 i hi).1,ly hle (h.2 i hi).2⟩⟩
end Go.Proofs.YtfhhakidodmdfaaGreatDoor

