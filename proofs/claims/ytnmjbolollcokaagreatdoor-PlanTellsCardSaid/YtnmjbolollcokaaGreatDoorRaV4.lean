/- cN of this claim: W41, W42, W43, W21, W27, W45, W46, W47, W52, W53, W56, W57, W58, W59, W61, W62, W60, W44, W55, W29, W54. -/
import Derived.Test.YtnmjbolollcokaaGreatDoorRaV3
import Derived.Test.YtnmjbolollcokaaGreatDoorRaV2
import Derived.ProofKit
import Derived.OpenShut
import Derived.LaidMore
import Derived.Laws.Externs
import Derived.WideKeyRuns
import Derived.WideKeyEntry
import Derived.Shelf.GgSortFunc.Insertion
import Derived.Shelf.Slices.In.SortNone
import Derived.Test.YtnmjbolollcokaaGreatDoorRaV1
import Derived.Shelf.Unicode.CaseTo
import Derived.Shelf.Unicode.DecodeSlow
set_option linter.all false
namespace Go.Proofs.YtnmjbolollcokaaGreatDoor
open Go

def xe(es:List Bool)(done:Array Bool):List Nat:=(List.range es.length).filter fun k=>(es[k]?).getD false&&done.getD k false
def Gt(es:List Bool)(i:Nat)(s:List Nat):List Nat:=(List.range es.length).filter fun k=>Nat.beq k i||s.contains k
def Ju:List Nat→List Nat→Bool
 |[],[]=>true
 |a::s,b::t=>Nat.beq a b&&Ju s t
 |_,_=>false
variable{b:Bool}{t:TypeId}
theorem Ca: ∀{s t:List Nat},Ju s t=true→s=t
 |[],[],_=>rfl
 |a::s,b::t,h=>by
  simp only [Ju,jz]at h
  rw [rM h.1,Ca h.2]
 |[],_::_,h=>by cases h
 |_::_,[],h=>by cases h
def Es:List (List Nat×((Nat→OI)→List OE))→List Nat→(Nat→OI)→List OE
 |[],_,_=>[]
 |p::r,s,σ=>bif Ju p.1 s then p.2 σ else Es r s σ
variable{done:Array Bool}{es:List Bool}{k:IntKind}
theorem sR{k:Nat}:k∈xe es done↔es[k]? =some true∧done.getD k false=true:=by
 unfold xe
 rw [List.mem_filter,xh,jz]
 constructor
 ·rintro⟨h1,h2,h3⟩
  refine⟨?_,h3⟩
  rw [oV h1]at h2 ⊢
  simpa using h2
 ·rintro⟨h1,h2⟩
  exact⟨(mC.1 h1).1,by rw [h1];rfl,h2⟩
variable{i:Nat}
theorem D6(h:es[i]? =some false):xe es (done.setIfInBounds i true)=xe es done:=by
 unfold xe
 refine List.filter_congr fun k hk=>?_
 by_cases hik:i=k
 ·subst hik;rw [h];rfl
 ·rw [tB false hik]
theorem Ho(h:es[i]? =some true)(hs:i<done.size):xe es (done.setIfInBounds i true)=Gt es i (xe es done):=by
 unfold Gt
 conv=>lhs;unfold xe
 refine List.filter_congr fun k hk=>?_
 by_cases hik:i=k
 ·subst hik;simp [h,hs]
 ·rw [tB false hik]
  have hb:Nat.beq k i=false:=by
   cases hb:Nat.beq k i with
   |false=>rfl
   |true=>exact absurd (rM hb).symm hik
  rw [hb,vz,Bool.eq_iff_iff,Ev,sR,jz]
  constructor
  ·rintro⟨h1,h2⟩
   refine⟨?_,h2⟩
   cases he:es[k]? with
   |none=>rw [he]at h1;cases h1
   |some b=>rw [he]at h1;simpa using h1
  ·rintro⟨h1,h2⟩
   exact⟨by rw [h1];rfl,h2⟩
def xo:List Nat→List (List Nat)
 |[]=>[[]]
 |k::l=>(xo l).map (k:: ·)++xo l
def vd(es:List Bool):List Nat:=(List.range es.length).filter fun k=>(es[k]?).getD false
variable{l:List (TypeId×Nat)}{α:Type}{p:Rp α}
theorem qK(p:Nat→Bool): ∀l:List Nat,l.filter p∈xo l
 |[]=>zP.2 rfl
 |k::l=>by
  unfold xo
  rw [zJ]
  by_cases h:p k=true
  ·rw [List.filter_cons_of_pos h]
   exact .inl (zG.2 ⟨_,qK p l,rfl⟩)
  ·rw [List.filter_cons_of_neg h]
   exact .inr (qK p l)
theorem FG(es:List Bool)(done:Array Bool):xe es done∈xo (vd es):=by
 have:xe es done=(vd es).filter fun k=>done.getD k false:=by
  unfold xe vd
  rw [List.filter_filter]
  refine List.filter_congr fun k _=>Bool.and_comm ..
 rw [this]
 exact qK _ _
def L9(L:List Oper)(es:List Bool)(i:Nat)(s:List Nat):Bool:=
 s.contains i||(vd es).any fun k=>if s.contains k then i8 L L.length k i||(vd es).any fun j=> !s.contains j&&i8 L L.length k j else i8 L L.length i k
def Dn(L:List Oper)(es:List Bool)(i:Nat)(aas:List (List Nat)):Bool:=(xo (vd es)).all fun s=>L9 L es i s||aas.any fun a=>Ju a s
def A5{α:Type}(p:α→Prop):List α→Prop
 |[]=>True
 |a::l=>p a∧A5 p l
theorem A5.mem{p:α→Prop}: ∀{l:List α},A5 p l→ ∀a∈l,p a
 |_::_,⟨h,_⟩,_,.head _=>h
 |_::_,⟨_,h⟩,_,.tail _ hm=>A5.mem h _ hm
abbrev LV:=List (List Nat×((Nat→OI)→List OE))
def DT(E:En)(G:gW)(L:List Oper)(ts:List TS)(Ss:LV)(es0:List Bool):Nat→List Oper→List Bool→Prop
 |_,[],_=>True
 |i,o::rest,false::es=>(∃(needs:List NS) (t:TS) (aas:List (List Nat)),ts[i]? =some t∧pW G ts needs∧(needs.all fun n=>kP L o i (n.at fun _=>lm))=true∧di i o=true∧D7 L es0 i t=true∧Dn L es0 i aas=true∧o.dst.isSome=true∧
   A5 (fun s=> ∀σ,bH E (Es Ss s σ) L.toArray (pT needs σ) o (t.at σ)) aas)∧DT E G L ts Ss es0 (i+1) rest es
 |i,o::rest,true::es=>(∃(needs:List NS) (t:TS) (aas:List (List Nat×List Nat)),ts[i]? =some t∧pW G ts needs∧(needs.all fun n=>kP L o i (n.at fun _=>lm))=true∧di i o=true∧D7 L es0 i t=true∧Dn L es0 i (aas.map (·.1))=true∧(aas.all fun p=>Ju (Gt es0 i p.1) p.2)=true∧
   A5 (fun p:List Nat×List Nat=> ∀σ,iH E L.toArray (Es Ss p.1 σ) (pT needs σ) o (fun x=>Es Ss p.2 (zX σ i x)) (fun x=>t.at (zX σ i x))) aas)∧DT E G L ts Ss es0 (i+1) rest es
 |_,_::_,[]=>False
variable{E:En}{G:gW}{L:List Oper}{Ss:LV}{e:TypeId}{j n:Nat}{o:Oper}{r:Rp α}{ts:List TS}{x:Operand}
theorem DT.get{es0:List Bool}: ∀(r:List Oper) (es:List Bool) (k:Nat),DT E G L ts Ss es0 k r es→ ∀(j:Nat) (o:Oper),r[j]? =some o→
    ∃e,es[j]? =some e∧ ∃(needs:List NS) (t:TS),ts[k+j]? =some t∧pW G ts needs∧(needs.all fun n=>kP L o (k+j) (n.at fun _=>lm))=true∧di (k+j) o=true∧D7 L es0 (k+j) t=true∧
      (match e with
       |false=>o.dst.isSome=true∧ ∃aas,Dn L es0 (k+j) aas=true∧A5 (fun s=> ∀σ,bH E (Es Ss s σ) L.toArray (pT needs σ) o (t.at σ)) aas
       |true=> ∃aas:List (List Nat×List Nat),Dn L es0 (k+j) (aas.map (·.1))=true∧(aas.all fun p=>Ju (Gt es0 (k+j) p.1) p.2)=true∧A5 (fun p:List Nat×List Nat=> ∀σ,iH E L.toArray (Es Ss p.1 σ) (pT needs σ) o (fun x=>Es Ss p.2 (zX σ (k+j) x)) (fun x=>t.at (zX σ (k+j) x))) aas):=by
  intro r
  induction r with
  |nil=>intro es k _ j o h;simp at h
  |cons p r ih=>
    intro es k h j o ho
    cases es with
    |nil=>exact h.elim
    |cons e es=>
      cases e with
      |false=>
        obtain⟨⟨needs,t,aas,g1,g2,g3,g4,g5,g6,g7,g8⟩,h2⟩:=h
        cases j with
        |zero=>
          simp at ho;subst ho
          exact⟨false,rfl,needs,t,g1,g2,g3,g4,g5,g7,aas,g6,g8⟩
        |succ j=>
          obtain⟨e',g1,g2⟩:=ih es (k+1) h2 j o (by simpa using ho)
          refine⟨e',by simpa using g1,?_⟩
          rw [show k+1+j=k+(j+1)from by omega]at g2
          exact g2
      |true=>
        obtain⟨⟨needs,t,aas,g1,g2,g3,g4,g5,g6,g7,g8⟩,h2⟩:=h
        cases j with
        |zero=>
          simp at ho;subst ho
          exact⟨true,rfl,needs,t,g1,g2,g3,g4,g5,aas,g6,g7,g8⟩
        |succ j=>
          obtain⟨e',g1,g2⟩:=ih es (k+1) h2 j o (by simpa using ho)
          refine⟨e',by simpa using g1,?_⟩
          rw [show k+1+j=k+(j+1)from by omega]at g2
          exact g2
structure HQ(E:En)(G:gW)(l:List Oper)(ts:List TS)(Ss:LV)(es:List Bool)(done:Array Bool)(a:Act)(w:World)(S:SH)(σ:Nat→OI):Prop where
 ext:dV E.B E.w0 E.S0 w S
 sat:eR w S
 own:co E.base E.B w S (Es Ss (xe es done) σ)
 size:a.tmps.size=E.N.n
 defers:a.defers=E.N.ds
 dsz:done.size=l.length
 down: ∀j o,l[j]? =some o→done.getD j false=true→ ∀e∈o.after,Region.binds .any e=true→done.getD e.on false=true
 old: ∀k t,look G k=some t→(∀j o,l[j]? =some o→done.getD j false=true→o.dst≠some k)→t.p S (a.tmps.getD k undef)
 new: ∀j o d p,l[j]? =some o→done.getD j false=true→o.dst=some d→ts[j]? =some p→(p.at σ).p S (a.tmps.getD d undef)
 deps: ∀j p,done.getD j false=true→ts[j]? =some p→ ∀k∈p.1,done.getD k false=true
variable{S:SH}{d:Nat}{κ β:Type}{m:List (κ×β)}{ty:TypeId}{u:Ty}{v:Value}{w:World}
section
theorem HQ.need{a:Act}{σ:Nat→OI}(h:HQ E G L ts Ss es done a w S σ)(hi:L[i]? =some o)(hun:done.getD i true=false)(hwait: ∀e∈o.after,Region.binds .any e=true→done.getD e.on false=true){needs:List NS}(h1:pW G ts needs)(h2:(needs.all fun n=>kP L o i (n.at fun _=>lm))=true):cN E.N S a (pT needs σ):=by
 have hlt:i<done.size:=by rw [h.dsz];exact(mC.1 hi).1
 have hun' :done.getD i false=false:=by
  simp [hlt]at hun ⊢;exact hun
 refine⟨h.size,h.defers,?_⟩
 have key: ∀n∈needs,(n.ty σ).p S (a.tmps.getD n.slot undef):=by
  intro n hn
  have hs:=li.1 h2 n hn
  have ho:=h1.mem n hn
  unfold kP NS.at at hs
  unfold Hw at ho
  cases hsrc:n.src with
  |some j=>
   rw [hsrc]at hs ho
   simp only [jz]at hs
   obtain⟨hs1,hs2⟩:=hs
   cases hj:L[j]? with
   |none=>rw [hj]at hs1;cases hs1
   |some p=>
    rw [hj]at hs1
    cases hd:p.dst with
    |none=>simp only [hd]at hs1;cases hs1
    |some d=>
     simp only [hd]at hs1
     have hd' :=rM hs1
     subst hd'
     have hdone:done.getD j false=true:=by
      unfold uz at hs2
      obtain⟨e,he0,hb⟩:=vD.1 hs2
      have he:e∈o.after:=by simpa using he0
      simp only [jz]at hb
      have:=hwait e he hb.2
      rwa [rM hb.1]at this
     have hm:=ho σ
     cases hf:ts[j]? with
     |none=>rw [hf]at hm;simp at hm
     |some f=>
      rw [hf]at hm
      have e:f.at σ=n.ty σ:=by simpa using hm
      rw [←e]
      exact h.new j p n.slot f hj hdone hd hf
  |none=>
   rw [hsrc]at hs ho
   refine h.old _ _ (ho σ) fun j p hj hdone hd=>?_
   have:=li.1 hs p (pX hj)
   simp only [hd,Nat.beq_refl,vy,vz]at this
   unfold uz at this
   obtain⟨e,he0,hb⟩:=vD.1 this
   have he:e∈p.after:=by simpa using he0
   simp only [jz]at hb
   have h3:=h.down j p hj hdone e he hb.2
   rw [rM hb.1]at h3
   rw [h3]at hun'
   cases hun'
 clear h1 h2
 intro k t hk
 unfold pT at hk
 induction needs with
 |nil=>simp [fv,look]at hk
 |cons n needs ih=>
  simp only [xg]at hk
  unfold fv look at hk
  by_cases hb:Nat.beq n.slot k=true
  ·have hb' :Nat.beq (n.at σ).slot k=true:=hb
   rw [hb']at hk
   have:=rM hb
   subst this
   have h9:some (n.at σ).ty=some t:=by simpa using hk
   have e:n.ty σ=t:=kI h9
   rw [←e]
   exact key n (oQ ..)
  ·rw [rO]at hb
   have hb' :Nat.beq (n.at σ).slot k=false:=hb
   rw [hb']at hk
   exact ih (fun m hm=>key m (oy _ hm)) hk
theorem HQ.step{a:Act}{w' :World}{S' :SH}{σ σ' :Nat→OI}(h:HQ E G L ts Ss es done a w S σ){p0:TS}{C:Nat→Prop}(hi:L[i]? =some o)(hdN: ∀d,o.dst=some d→d<E.N.n)(hs2: ∀d,o.dst=some d→ ∀j p,L[j]? =some p→done.getD j false=true→p.dst=some d→i=j)(hwait: ∀e∈o.after,Region.binds .any e=true→done.getD e.on false=true)(ht:ts[i]? =some p0)(hun:done.getD i true=false)(hdep: ∀k∈p0.1,k=i∨done.getD k false=true)(hext:dV C w S w' S')(hC: ∀b,C b→E.base≤b∨E.B b)(hsat:eR w' S')(hown:co E.base E.B w' S' (Es Ss (xe es (done.setIfInBounds i true)) σ'))(hσ: ∀k,k≠i→σ' k=σ k)(hv:(p0.at σ').p S' v):
  HQ E G L ts Ss es (done.setIfInBounds i true) (a.put o.dst v) w' S' σ' :=by
 have hlt:i<done.size:=by rw [h.dsz];exact(mC.1 hi).1
 have hset: ∀j,(done.setIfInBounds i true).getD j false=true→j=i∨done.getD j false=true:=fun j hj=>by
  by_cases hij:i=j
  ·exact .inl hij.symm
  ·rw [tB false hij]at hj;exact .inr hj
 have hseti:(done.setIfInBounds i true).getD i false=true:=by simp [hlt]
 have hun' :done.getD i false=false:=by simp [hlt]at hun ⊢;exact hun
 have hput: ∀k,(∀d,o.dst=some d→d≠k)→(a.put o.dst v).tmps.getD k undef=a.tmps.getD k undef:=fun k hk=>by
  cases hd:o.dst with
  |none=>rfl
  |some d=>
   have hda:d<a.tmps.size:=by rw [h.size];exact hdN d hd
   rw [lP hda,cQ (hk d hd)]
 refine⟨h.ext.step hext hC,hsat,hown,?_,?_,by simp [h.dsz],fun j p hj hdone e he hb=>?_,fun k u hk hno=>?_,fun j p d' u hj hdone hd' hu=>?_,fun j u hj hu k hk=>?_⟩
 ·cases o.dst with
  |none=>exact h.size
  |some d=>simp [Act.put,h.size]
 ·cases o.dst with
  |none=>exact h.defers
  |some d=>exact h.defers
 ·rcases hset j hdone with rfl|hj'
  ·rw [hi]at hj
   have:o=p:=by simpa using hj
   subst this
   exact oU (hwait e he hb)
  ·exact oU (h.down j p hj hj' e he hb)
 ·rw [hput k fun d hd e=>hno i o hi hseti (by rw [hd,e])]
  exact u.mono hext.keep (h.old k u hk fun j p hj hdone=>hno j p hj (oU hdone))
 ·by_cases hij:j=i
  ·subst hij
   rw [hi]at hj
   have:o=p:=by simpa using hj
   subst this
   have hda:d' <a.tmps.size:=by rw [h.size];exact hdN d' hd'
   rw [hd',lP hda,cO rfl]
   rw [ht]at hu
   have:p0=u:=by simpa using hu
   subst this
   exact hv
  ·have hj' :=(hset j hdone).resolve_left hij
   rw [hput d' fun d hd e=>by subst e;exact hij (hs2 d hd j p hj hj' hd').symm]
   have e1:u.at σ' =u.at σ:=congrArg u.2 (List.map_congr_left fun k hk=>hσ k fun e=>by
     subst e
     rw [h.deps j u hj' hu k hk]at hun';cases hun')
   rw [e1]
   exact Ty.mono _ hext.keep (h.new j p d' u hj hj' hd' hu)
 ·rcases hset j hj with rfl|hj'
  ·rw [ht]at hu
   have:p0=u:=by simpa using hu
   subst this
   rcases hdep k hk with rfl|h'
   ·exact hseti
   ·exact oU h'
  ·exact oU (h.deps j u hj' hu k hk)
end
variable{Q:Exit→Act→World→Prop}{q:Rp β}
theorem zU{l t:List Oper}(hsl:qf E.N.n [] l=true)(hlen:ts.length=l.length)(hesl:es.length=l.length)(hd:DT E G (l++t) ts Ss es 0 l es)(ht:rx (l++t) l.length t.length=true)(hQ: ∀a w S σ,St E (Es Ss (vd es) σ) (Ap l (F0 ts σ) G) a w S→wpListIn (fw E.r) 0 E.P (l++t).toArray Q t a w):
  ∀(fuel:Nat) (done:Array Bool) (a:Act) (w:World) (S:SH) (σ:Nat→OI),gB done=fuel→(∀j,l.length≤j→done.getD j false=false)→HQ E G (l++t) ts Ss es done a w S σ→wpAnyIn (fw E.r) 0 E.P .any (l++t).toArray Q fuel done a w:=by
 have hL1: ∀i o,i<l.length→(l++t)[i]? =some o→l[i]? =some o:=fun i o hi h=>by rwa [wV hi]at h
 have hL2: ∀i o,l[i]? =some o→(l++t)[i]? =some o:=fun i o h=>by rw [wV (mC.1 h).1];exact h
 have htail: ∀m o,l.length≤m→(l++t)[m]? =some o→pK (l++t) m=true∧di m o=true:=fun m o hm ho=>by
  have hml:m<(l++t).length:=(mC.1 ho).1
  rw [kJ]at hml
  unfold rx at ht
  have:=li.1 ht (m-l.length) (by simp;omega)
  rw [show l.length+(m-l.length)=m from by omega,ho]at this
  simp only [jz]at this
  exact⟨this.1,this.2.1⟩
 have hget:=fun i o (hi:l[i]? =some o)=>DT.get l es 0 hd i o hi
 have hedge: ∀i o,(l++t)[i]? =some o→di i o=true:=fun i o hi=>by
  rcases jd i l.length with h|h
  ·obtain⟨_,_,_,_,_,_,_,h,_⟩:=hget i o (hL1 i o h hi)
   simpa using h
  ·exact(htail i o h hi).2
 obtain⟨hs1,hs2⟩:=uE l [] hsl
 have fin: ∀fuel done a w S σ,gB done=fuel→(∀j,l.length≤j→done.getD j false=false)→HQ E G (l++t) ts Ss es done a w S σ→(∀i,i<l.length→done.getD i false=true)→wpAnyIn (fw E.r) 0 E.P .any (l++t).toArray Q fuel done a w:=by
  intro fuel done a w S σ hu hfree h hall
  have hdn:xe es done=vd es:=by
   unfold xe vd
   refine List.filter_congr fun k hk=>?_
   rw [hall k (by rw [←hesl];exact xh.1 hk),Bool.and_true]
  have hown:=h.own
  rw [hdn]at hown
  refine rU (n:=l.length) (fun m o hm ho=>(htail m o hm ho).1) hedge t l.length done fuel a w (fG _) (by simp) h.dsz (fun j hj=>⟨fun hjd=>?_,fun hlt=>hall j hlt⟩) hu
   (hQ a w S σ ⟨h.ext,h.sat,hown,h.size,h.defers,fun j u hj=>?_⟩)
  ·rcases jd j l.length with h' |h'
   ·exact h'
   ·rw [hfree j h']at hjd;cases hjd
  ·rcases xM l (F0 ts σ) j u (by unfold F0;rw [List.length_map];exact hlen) hj with⟨i,o,h1,h2,h3⟩|⟨h1,h2⟩
   ·unfold F0 at h3
    rw [Df]at h3
    cases hf:ts[i]? with
    |none=>rw [hf]at h3;simp at h3
    |some f=>
     rw [hf]at h3
     have e:f.at σ=u:=by simpa using h3
     rw [←e]
     exact h.new i o j f (hL2 i o h1) (hall i (mC.1 h1).1) h2 hf
   ·refine h.old j u h1 fun i o ho hdn=>?_
    rcases jd i l.length with h' |h'
    ·exact h2 o (pX (hL1 i o h' ho))
    ·rw [hfree i h']at hdn;cases hdn
 have lower: ∀done a w S σ i,(∀j,l.length≤j→done.getD j false=false)→HQ E G (l++t) ts Ss es done a w S σ→i∈Region.ready .any (l++t).toArray done→l.length≤i→ ∀j,j<l.length→done.getD j false=true:=by
  intro done a w S σ i hfree h hi hge j hj
  obtain⟨hun,p,hp,hwait⟩:=rN.1 hi
  have hp' :(l++t)[i]? =some p:=by simpa using hp
  have hcov:=(htail i p hge hp').1
  unfold pK at hcov
  have hre:=li.1 hcov j (by simp;omega)
  exact dP h.down _ i j (fun q hq e he hb=>by
   have:q=p:=by rw [hp']at hq;simpa using hq.symm
   subst this
   exact hwait e he hb) hre
 intro fuel
 induction fuel with
 |zero=>
  intro done a w S σ hu hfree h
  exact fin 0 done a w S σ hu hfree h fun i hi=>nE hu (by rw [h.dsz,kJ];omega)
 |succ fuel ih=>
  intro done a w S σ hu hfree h
  by_cases hall: ∀i,i<l.length→done.getD i false=true
  ·exact fin _ done a w S σ hu hfree h hall
  have hready0: ∀m i,i<m→i<l.length→Region.ready .any (l++t).toArray done=[]→done.getD i false=true:=by
   intro m
   induction m with
   |zero=>intro i h;omega
   |succ m ihm=>
    intro i him hil hr
    have his:i<done.size:=by rw [h.dsz,kJ];omega
    by_cases hdn:done.getD i true=true
    ·rw [←jK his];exact hdn
    ·exfalso
     obtain⟨o,ho⟩: ∃o,(l++t)[i]? =some o:=⟨l[i],hL2 i _ (oV hil)⟩
     have hmem:i∈Region.ready .any (l++t).toArray done:=by
      rw [rN]
      refine⟨by simpa using hdn,o,by simpa using ho,fun e he hb=>?_⟩
      have:=hedge i o ho
      unfold di at this
      have:=li.1 this e (by simpa using he)
      simp only [hb,vy,vz,oA]at this
      exact ihm e.on (by omega) (by omega) hr
     rw [hr]at hmem;cases hmem
  refine⟨fun hr=>absurd (fun i hi=>hready0 (i+1) i (by omega) hi hr) hall,fun i hi=>?_⟩
  have hil:i<l.length:=by
   rcases jd i l.length with h' |h'
   ·exact h'
   ·exact absurd (lower done a w S σ i hfree h hi h') hall
  obtain⟨hun,o,ho,hwait⟩:=rN.1 hi
  have ho' :(l++t)[i]? =some o:=by simpa using ho
  have hol:=hL1 i o hil ho'
  obtain⟨e,he,needs,u,h1,h2,h3,_,h4,h5⟩:=hget i o hol
  rw [rl]at h1 h3 h4
  have hF:=h.need ho' hun hwait h2 h3
  have his:i<done.size:=by rw [h.dsz,kJ];omega
  have hun' :done.getD i false=false:=by rw [←jK his];exact hun
  have hu' :gB (done.setIfInBounds i true)=fuel:=by have:=lq hun;omega
  have huq: ∀d,o.dst=some d→ ∀j p,(l++t)[j]? =some p→done.getD j false=true→p.dst=some d→i=j:=fun d hdd j p hj hjd hpd=>by
   rcases jd j l.length with h' |h'
   ·exact hs2 i j o p d hol (hL1 j p h' hj) hdd hpd
   ·rw [hfree j h']at hjd;cases hjd
  have hfree' : ∀j,l.length≤j→(done.setIfInBounds i true).getD j false=false:=fun j hj=>by
   rw [tB false (by omega)];exact hfree j hj
  have hbl:E.base≤w.heap.size:=h.ext.size
  have hwaits: ∀q,(l++t)[i]? =some q→ ∀e∈q.after,Region.binds .any e=true→done.getD e.on false=true:=fun q hq e he hb=>by
   have:q=o:=by rw [ho']at hq;simpa using hq.symm
   subst this
   exact hwait e he hb
  have hdpp: ∀k∈u.1,k=i∨done.getD k false=true:=fun k hk=>by
   have:=li.1 h4 k hk
   simp only [jz,vB]at this
   rcases this.2 with hb|hb
   ·exact .inl (rM hb)
   ·exact .inr (dP h.down _ i k hwaits hb)
  have hdNN: ∀d,o.dst=some d→d<E.N.n:=fun d hd=>(hs1 o (pX hol) d hd).1
  unfold wpOpIn
  rw [ho]
  show if _ then _ else _
  -- just these effects stand
  have hpos:L9 (l++t) es i (xe es done)=false:=by
   rw [Bool.eq_false_iff]
   intro hno
   unfold L9 at hno
   rw [vB]at hno
   rcases hno with hc|hc
   ·have:=(sR.1 (Ev.1 hc)).2
    rw [this]at hun';cases hun'
   ·obtain⟨k,hk1,hk2⟩:=vD.1 hc
    have hke:es[k]? =some true:=by
     unfold vd at hk1
     rw [List.mem_filter,xh]at hk1
     have h7:=hk1.2
     rw [oV hk1.1]at h7 ⊢
     simpa using h7
    by_cases hin:(xe es done).contains k=true
    ·rw [cO hin,vB]at hk2
     have hkd:=(sR.1 (Ev.1 hin)).2
     rcases hk2 with hb|hb
     ·have:=dP h.down _ k i (fun q hq e he hb=>h.down k q hq hkd e he hb) hb
      rw [this]at hun';cases hun'
     ·obtain⟨j,hj1,hj2⟩:=vD.1 hb
      rw [jz,Bool.not_eq_true']at hj2
      have hje:es[j]? =some true:=by
       unfold vd at hj1
       rw [List.mem_filter,xh]at hj1
       have h7:=hj1.2
       rw [oV hj1.1]at h7 ⊢
       simpa using h7
      have hjd:=dP h.down _ k j (fun q hq e he hb=>h.down k q hq hkd e he hb) hj2.2
      have:=Ev.2 (sR.2 ⟨hje,hjd⟩)
      rw [hj2.1]at this;cases this
    ·rw [cQ hin]at hk2
     have hkd:=dP h.down _ i k hwaits hk2
     exact hin (Ev.2 (sR.2 ⟨hke,hkd⟩))
  have hwin: ∀aas:List (List Nat),Dn (l++t) es i aas=true→xe es done∈aas:=by
   intro aas hw
   unfold Dn at hw
   have:=li.1 hw _ (FG es done)
   rw [hpos,vz]at this
   obtain⟨b,hb1,hb2⟩:=vD.1 this
   rw [←Ca hb2];exact hb1
  cases e with
  |false=>
   simp only at h5
   obtain⟨hdS,aas,hw,h5⟩:=h5
   rw [rl]at hw
   obtain⟨d,hdd⟩:=Option.isSome_iff_exists.1 hdS
   have h6:=h5.mem _ (hwin aas hw) σ a w S h.sat h.own hF
   have hdq:=D6 (done:=done) he
   by_cases hw:Region.wanted o (yielded (l++t).toArray a.tmps)=true
   ·rw [cO hw]at h6 ⊢
    refine gi (fun a' w' ⟨v,S',ha,hx,hs,hv⟩=>?_) h6
    subst ha
    exact ih _ _ _ S' _ hu' hfree' (h.step ho' hdNN huq hwait h1 hun hdpp hx (fun _ hb=>hb.elim) hs (by rw [hdq];exact h.own.ext0 hx) (fun _ _=>rfl) hv)
   ·rw [cQ hw]at h6 ⊢
    exact⟨fun _ _=>trivial,ih _ _ _ S _ hu' hfree' (h.step ho' hdNN huq hwait h1 hun hdpp (dI kH _ _) (fun _ hb=>hb.elim) h.sat (by rw [hdq];exact h.own) (fun _ _=>rfl) h6)⟩
  |true=>
   simp only [rl]at h5
   obtain⟨aas,hw,hins,h5⟩:=h5
   obtain⟨p,hp1,hp2⟩:=zG.1 (hwin _ hw)
   have hp3:=Ca (li.1 hins p hp1)
   have h6:=h5.mem p hp1 σ a w S h.sat (by rw [hp2];exact h.own) hF hbl
   have hdq:xe es (done.setIfInBounds i true)=p.2:=by rw [Ho he his,←hp2,hp3]
   by_cases hw:Region.wanted o (yielded (l++t).toArray a.tmps)=true
   ·rw [cO hw]at h6 ⊢
    refine gi (fun a' w' ⟨v,S',x,ha,hx,hs,hown,hv⟩=>?_) h6
    subst ha
    exact ih _ _ _ S' _ hu' hfree' (h.step ho' hdNN huq hwait h1 hun hdpp hx (fun b ⟨f,hf,hb⟩=>(co.mem h.own f (by rw [←hp2];exact hf)).2 b hb) hs (by rw [hdq];exact hown) (fun k hk=>vH σ x hk) hv)
   ·rw [cQ hw]at h6 ⊢
    obtain⟨x,hown,hv⟩:=h6
    exact⟨fun _ _=>trivial,ih _ _ _ S _ hu' hfree' (h.step ho' hdNN huq hwait h1 hun hdpp (dI kH _ _) (fun _ hb=>hb.elim) h.sat (by rw [hdq];exact hown) (fun k hk=>vH σ x hk) hv)⟩
variable{O:List OE}
theorem wR{id:Nat}(m:Nat)(ts:List TS)(es:List Bool)(Ss:LV)(hO: ∀σ,Es Ss [] σ=O)(hm:E.P.follows .mixedOrders=true)(hsl:qf E.N.n [] (L.take m)=true)(hlen:ts.length=(L.take m).length)(hesl:es.length=(L.take m).length)(ht:rx L (L.take m).length (L.drop m).length=true)(hd:DT E G L ts Ss es 0 (L.take m) es)(k: ∀σ:Nat→OI,RG E L.toArray Q (L.drop m) (Es Ss (vd es) σ) (Ap (L.take m) (F0 ts σ) G)):CG E Q (.region id L.toArray true) O G:=fun a w S st=>by
 have hL:L=L.take m++L.drop m:=(pY m L).symm
 generalize L.take m=l at hL hsl hlen hesl ht hd k
 generalize L.drop m=t at hL ht k
 subst hL
 refine wpIn_region_any hm ?_
 obtain⟨he,hs⟩:=qX (w:=w) st.sat
 have hdn0:xe es (Array.replicate (l++t).toArray.size false)=[]:=by
  unfold xe
  refine Cr.2 fun k hk=>?_
  simp [rQ]
  intro _
  split<;>simp
 refine zU hsl hlen hesl hd ht (fun a w S σ st=>k σ a w S st) _ _ _ _ S (fun _=>lm) ?_ (fun j _=>?_)
  ⟨st.ext.step0 he,hs,by rw [hdn0,hO];exact st.own.ext0 he,st.facts.size,st.facts.defers,by simp,fun j o hj hdone=>?_,fun k t hk _=>st.facts.at_ k t hk,fun j o d t hj hdone=>?_,fun j p hdone=>?_⟩
 ·unfold gB;rw [Cs,Cp];simp
 ·simp [rQ];split<;>rfl
 ·simp [rQ]at hdone
  split at hdone<;>simp at hdone
 ·simp [rQ]at hdone
  split at hdone<;>simp at hdone
 ·simp [rQ]at hdone
  split at hdone<;>simp at hdone

variable{base:Nat}{y:Code}
theorem co.perm{B:Nat→Prop}{O' :List OE}(h:O.Perm O'):co base B w S O→co base B w S O' :=by
 induction h with
 |nil=>exact id
 |cons x p ih=>
  rintro⟨h1,h2,h3⟩
  exact⟨h1,fun f hf=>h2 f (p.mem_iff.2 hf),ih h3⟩
 |swap x y l=>
  rintro⟨h1,h2,h3,h4,h5⟩
  refine⟨h3,fun f hf k hk hfk=>?_,h1,fun f hf=>h2 f (oy _ hf),h5⟩
  rcases fS.1 hf with rfl|hf
  ·exact h2 x (oQ ..) k hfk hk
  ·exact h4 f hf k hk hfk
 |trans _ _ ih1 ih2=>exact fun k=>ih2 (ih1 k)
def nL(O:List OE):List Nat→List OE
 |[]=>[]
 |i::l=>match O[i]? with
  |some e=>e::nL O l
  |none=>nL O l
theorem sO(O:List OE): ∀a b:List Nat,nL O (a++b)=nL O a++nL O b
 |[],_=>rfl
 |i::a,b=>by
  simp only [List.cons_append,nL]
  split<;>simp [sO O a b]
theorem BI{a b:List Nat}(h:a.Perm b):(nL O a).Perm (nL O b):=by
 induction h with
 |nil=>exact .nil
 |cons x p ih=>
  simp only [nL]
  split
  ·exact .cons _ ih
  ·exact ih
 |swap x y l=>
  simp only [nL]
  cases hx:O[x]? <;>cases hy:O[y]? <;>simp<;>exact .swap ..
 |trans _ _ ih1 ih2=>exact ih1.trans ih2
theorem An(O:List OE):nL O (List.range O.length)=O:=by
 have key: ∀n,n≤O.length→nL O (List.range n)=O.take n:=by
  intro n
  induction n with
  |zero=>intro _;rfl
  |succ n ih=>
   intro h
   rw [List.range_succ,sO,ih (by omega)]
   simp only [nL]
   rw [oV (by omega),List.take_succ_eq_append_getElem (by omega)]
 rw [key _ (fG _),De]
theorem co.pick{B:Nat→Prop}(l:List Nat)(hl:l.isPerm (List.range O.length)=true)(h:co base B w S O):co base B w S (nL O l):=
 h.perm (by
  have:=BI (O:=O) (List.isPerm_iff.1 hl)
  rw [An]at this
  exact this.symm)

variable{U:TypeId}{after:Array Edge}{cap:Nat}{dst:Option Tmp}{g:Option (Nat×Bool)}{pos:String}{xs:List α}
section
theorem rb{mm:Bool}{l:Option Nat}{o:Nat}{y:α}{j:Int}{p:Operand}(hm:hU mm r U l cap xs∈O)(hy:eh xs j=some y)(hp:aL E.N G p (tV (jg l o))):
  bN E O G ⟨dst,.nilCheck p,ty,pos,after,g⟩ (tV (jg l o)):=
 .of_pure fun a w S _ ho hF=>by
  have h1:a.eval p=jg l o:=hp S a hF
  obtain⟨_,hy'⟩:=hM hy
  obtain⟨b,cur,rfl,_⟩:=m2 (ho.mem _ hm).1 hy'
  exact⟨jg (some b) o,by simp [execOp,h1,jg,aE],rfl⟩
end
open Go.ChangeShapes Go.WideShapes Go.ChangeAt Go.RowKit

variable{H:Type}{P:Program}{T:TypeId}{W:World}{c:Nat}{cells:List Value}{enc:TypeId×Value→H}{gs:Nat}{rest:List Oper}
section
def AA(W:World):SH:=fun b=>W.heap[b]?
theorem Ir(W:World)(hg: ∀p∈glob,∃c T fr,W.heap[p.1]? =some (.cells c T fr)∧c.toList.take p.2.length=p.2)(ht: ∀w' :World,(∀(b:Nat) (o:Obj),W.heap[b]? =some o→ ∃o',w'.heap[b]? =some o' ∧w8 o o')→Dv w'):eR W (AA W):=⟨fun _ o h=>⟨o,h,qA o⟩,hg,ht⟩
def rK(enc:TypeId×Value→H)(P:Program)(W:World){α:Type}(t:TypeId)(r:Rp α):Prop:=
 P.cellsOf t=r.sz∧ ∀fuel cs x,DataW.trod enc P W 0 (fun _=>true) true fuel t cs=some x→ ∃y,r.rc (AA W) cs y
theorem ED(h:P.underlying t=some .bool)(hc:P.cellsOf t=1):rK enc P W t rB:=⟨hc,fun fuel cs x hx=>by
 cases fuel with
 |zero=>simp [DataW.trod]at hx
 |succ n=>
  unfold DataW.trod at hx
  rw [h]at hx
  split at hx
  all_goals try (injections;done)
  ·exact⟨_,rfl⟩⟩
theorem oH{α β:Type}{f:α→Option β}: ∀{l:List α} {r:List β},l.mapM f=some r→r.length=l.length∧ ∀(i:Nat) (x:α),l[i]? =some x→ ∃y,r[i]? =some y∧f x=some y
 |[],r,h=>by
  simp at h
  subst h
  exact⟨rfl,fun i x hx=>by simp at hx⟩
 |a::l,r,h=>by
  rw [List.mapM_cons]at h
  cases hf:f a with
  |none=>rw [hf]at h;simp at h
  |some b=>
   rw [hf]at h
   cases hm:l.mapM f with
   |none=>rw [hm]at h;simp at h
   |some r' =>
    rw [hm]at h
    simp at h
    subst h
    obtain⟨h1,h2⟩:=oH hm
    refine⟨by simp [h1],fun i x hx=>?_⟩
    cases i with
    |zero=>simp at hx;subst hx;exact⟨b,rfl,hf⟩
    |succ i=>exact h2 i x (by simpa using hx)
theorem ul{a:Addr}(h:W.cell? a=some v):a.spot=none∧ ∃c E fr,W.heap[a.block]? =some (.cells c E fr)∧c[a.off]? =some v:=by
 unfold World.cell? at h
 cases ho:W.heap[a.block]? with
 |none=>rw [ho]at h;cases h
 |some o=>
  rw [ho]at h
  cases o with
  |cells c E fr=>
   simp only at h
   by_cases hs:a.spot.isSome=true
   ·rw [cO hs]at h;cases h
   ·rw [cQ hs]at h
    exact⟨by cases hq:a.spot with
     |none=>rfl
     |some s=>rw [hq]at hs;simp at hs,c,E,fr,rfl,h⟩
  |_=>simp at h
theorem yb(a:Addr):a.add 0=a:=by unfold Addr.add;rfl
theorem Cf{b off:Nat}{cs:List Value}(h:W.cells? 0 ⟨b,off,none⟩ n=some cs)(hn:0<n): ∃c E fr,W.heap[b]? =some (.cells c E fr)∧cs=(c.toList.drop off).take n:=by
 unfold World.cells? at h
 rw [cO (iQ _)]at h
 obtain⟨h1,h2⟩:=oH h
 obtain⟨v,_,hv⟩:=h2 0 0 (by simp [hn])
 obtain⟨_,c,E,fr,h3,h4⟩:=ul hv
 refine⟨c,E,fr,by simpa [Addr.add] using h3,?_⟩
 apply List.ext_getElem?
 intro i
 have hl:cs.length=n:=by simpa using h1
 by_cases hi:i<n
 ·obtain⟨v,h5,h6⟩:=h2 i i (by simp [hi])
  obtain⟨_,c',E',fr',h7,h8⟩:=ul h6
  rw [eQ]at h7 h8
  have h7' :W.heap[b]? =some (.cells c' E' fr'):=h7
  have h3' :W.heap[b]? =some (.cells c E fr):=by simpa [Addr.add] using h3
  rw [h3']at h7'
  injection h7' with h7'
  injection h7' with e1
  subst e1
  rw [h5,wU hi,u4]
  simpa using h8.symm
 ·rw [Dj (by omega),Dj (by simp;omega)]
theorem Dp{q:Rp α}{len:Nat}{a:Addr}{x:DataW H×List MemPlace}(h0' :0<q.sz)(hq:rK enc P W e q)(hx:(let elemAt (i:Nat):Option (DataW H×List MemPlace):=(W.cells? 0 (a.add (i*P.cellsOf e)) (P.cellsOf e)).bind (DataW.trod enc P W 0 (fun _=>true) true n e)
   if 0≤a.block∧len≤cap∧cap≤maxLen then
    ((List.range len).mapM elemAt).bind fun elems=>
     (if(fun _=>true) a.block then(List.range (cap-len)).mapM fun j=>elemAt (len+j)else some []).map fun rest=>
      (DataW.slice (elems.map (·.1)) (rest.map (·.1)),MemPlace.row a ((elems.length+rest.length)*P.cellsOf e)++(elems++rest).flatMap (·.2))
   else none)=some x): ∃y,(dG q).rc (AA W) [.slice (some a) len cap] y:=by
 simp only at hx
 split at hx
 ·rename_i hcond
  obtain⟨_,hle,hmax⟩:=hcond
  cases hm:(List.range len).mapM (fun i=>(W.cells? 0 (a.add (i*P.cellsOf e)) (P.cellsOf e)).bind (DataW.trod enc P W 0 (fun _=>true) true n e))with
  |none=>rw [hm]at hx;simp at hx
  |some elems=>
   obtain⟨hm1,hm2⟩:=oH hm
   rw [hq.1]at hm2
   by_cases hl0:len=0
   ·subst hl0;exact⟨[],some a,cap,rfl,iQ _,hmax,.inl rfl⟩
   have hsp0:a.spot=none:=by
    obtain⟨z,_,hz⟩:=hm2 0 0 (by rw [List.getElem?_range (by omega)])
    rw [Nat.zero_mul,yb]at hz
    cases hcs:W.cells? 0 a q.sz with
    |none=>rw [hcs]at hz;simp at hz
    |some cs1=>
     unfold World.cells? at hcs
     rw [cO (iQ _)]at hcs
     obtain⟨_,g2⟩:=oH hcs
     obtain⟨v,_,hv⟩:=g2 0 0 (by simp [h0'])
     rw [yb]at hv
     exact(ul hv).1
   have hcell: ∀i,i<len→ ∃c E fr,a.spot=none∧W.heap[a.block]? =some (.cells c E fr)∧ ∃y,q.rc (AA W) ((c.toList.drop (a.off+i*q.sz)).take q.sz) y:=by
    intro i hi
    obtain⟨z,_,hz⟩:=hm2 i i (by simp [hi])
    cases hcs:W.cells? 0 (a.add (i*q.sz)) q.sz with
    |none=>rw [hcs]at hz;simp at hz
    |some cs1=>
     rw [hcs]at hz
     have hsp:a.spot=none:=hsp0
     obtain⟨ab,ao,az⟩:=a
     simp only at hsp
     subst hsp
     rw [eQ]at hcs
     obtain⟨c,E,fr,g1,g2⟩:=Cf hcs h0'
     obtain⟨y,hy⟩:=hq.2 n cs1 z hz
     exact⟨c,E,fr,rfl,g1,y,by rw [←g2];exact hy⟩
   obtain⟨c,E,fr,hsp,hb,_⟩:=hcell 0 (by omega)
   have key: ∀m,m≤len→ ∃ys:List α,ys.length=m∧oE q (AA W) ((c.toList.drop a.off).take (m*q.sz)) ys:=by
    intro m
    induction m with
    |zero=>intro _;exact⟨[],rfl,by simp [oE]⟩
    |succ m ih=>
     intro hm'
     obtain⟨ys,hy1,hy2⟩:=ih (by omega)
     obtain⟨c',E',fr',_,hb',y,hy⟩:=hcell m (by omega)
     rw [hb]at hb'
     injection hb' with hb'
     injection hb' with e1
     subst e1
     refine⟨ys++[y],by simp [hy1],?_⟩
     have hsplit:(c.toList.drop a.off).take ((m+1)*q.sz)=(c.toList.drop a.off).take (m*q.sz)++(c.toList.drop (a.off+m*q.sz)).take q.sz:=by
      rw [oT,Nat.one_mul,List.take_add,sw]
     rw [hsplit]
     exact ph hy2 (BH.2 hy)
   obtain⟨ys,hy1,hy2⟩:=key len (fG _)
   obtain⟨ab,ao,az⟩:=a
   simp only at hsp
   subst hsp
   exact⟨ys,some ⟨ab,ao,none⟩,cap,by rw [hy1],by omega,hmax,.inr ⟨ab,ao,c,E,fr,rfl,hb,by rw [hy1];exact hy2⟩⟩
 ·cases hx
theorem lr{q:Rp α}(h:P.underlying t=some (.slice e))(hc:P.cellsOf t=1)(h0:Nat.blt 0 q.sz=true)(hq:rK enc P W e q):rK enc P W t (dG q):=⟨hc,fun fuel cs x hx=>by
 have h0' :0<q.sz:=by simpa [oA] using h0
 cases fuel with
 |zero=>simp [DataW.trod]at hx
 |succ n=>
  unfold DataW.trod at hx
  rw [h]at hx
  split at hx
  all_goals try (injections;done)
  ·exact⟨[],none,0,rfl,fG _,iQ _,.inl rfl⟩
  ·rename_i e' a len cap heq
   injection heq with e1
   injection e1 with e1
   subst e1
   exact Dp h0' hq hx⟩
def Hx(enc:TypeId×Value→H)(P:Program)(W:World){α:Type}(off:Nat)(l:List (TypeId×Nat))(r:Rp α):Prop:=
 ∀(fuel:Nat) (cs:List Value),cs.length=off+r.sz→(∀f∈l,∃x,DataW.trod enc P W 0 (fun _=>true) true fuel f.1 ((cs.drop f.2).take (P.cellsOf f.1))=some x)→ ∃y,r.rc (AA W) (cs.drop off) y
theorem k4{t off:Nat}(h:rK enc P W t r):Hx enc P W off [(t,off)] r:=fun fuel cs hl hx=>by
 obtain⟨x,hx⟩:=hx _ (List.mem_singleton_self _)
 simp only at hx
 rw [h.1,yw (by simp;omega)]at hx
 exact h.2 _ _ _ hx
theorem cT{t off off' :Nat}(h:rK enc P W t p)(ho:off' =off+p.sz)(hr:Hx enc P W off' l q):Hx enc P W off ((t,off)::l) (bP p q):=fun fuel cs hl hx=>by
 subst ho
 obtain⟨x,hx1⟩:=hx _ (oQ ..)
 simp only at hx1
 rw [h.1]at hx1
 obtain⟨y,hy⟩:=h.2 _ _ _ hx1
 obtain⟨z,hz⟩:=hr fuel cs (by rw [hl];show off+(p.sz+q.sz)=_;omega) fun f hf=>hx f (oy _ hf)
 exact⟨(y,z),_,_,by rw [←sw];exact(pY _ _).symm,hy,hz⟩
theorem ii{f:β→α}(ht:(P.underlying t).map (fun d=>match d with| .struct l=>(true,l.toList.map fun f=>(f.type,f.offset))|_=>(false,[]))=some (true,l))(hc:P.cellsOf t=p.sz)(hf: ∀y,∃x,f x=y)(hl:Hx enc P W 0 l p):rK enc P W t (il p f):=⟨hc,fun fuel cs x hx=>by
 obtain⟨fs,h1,h2⟩: ∃fs,P.underlying t=some (.struct fs)∧fs.toList.map (fun f=>(f.type,f.offset))=l:=by
  cases hu:P.underlying t with
  |none=>rw [hu]at ht;cases ht
  |some d=>
   rw [hu]at ht
   cases d<;>simp at ht
   exact⟨_,rfl,ht⟩
 cases fuel with
 |zero=>simp [DataW.trod]at hx
 |succ n=>
  unfold DataW.trod at hx
  rw [h1]at hx
  change (if cs.length=P.cellsOf t then(fs.toList.mapM fun f=>DataW.trod enc P W 0 (fun _=>true) true n f.type ((cs.drop f.offset).take (P.cellsOf f.type))).map (fun xs=>(DataW.agg (xs.map (·.1)),xs.flatMap (·.2)))else none)=some x at hx
  split at hx
  ·rename_i hlen
   cases hm:fs.toList.mapM (fun f=>DataW.trod enc P W 0 (fun _=>true) true n f.type ((cs.drop f.offset).take (P.cellsOf f.type)))with
   |none=>rw [hm]at hx;simp at hx
   |some r=>
    obtain⟨_,hm2⟩:=oH hm
    obtain⟨y,hy⟩:=hl n cs (by rw [hlen,hc];omega) (fun g hg=>by
     rw [←h2,zG]at hg
     obtain⟨f0,hf0,rfl⟩:=hg
     obtain⟨i,hi⟩:=List.getElem?_of_mem hf0
     obtain⟨z,_,hz⟩:=hm2 i f0 hi
     exact⟨z,hz⟩)
    obtain⟨x',hx'⟩:=hf y
    refine⟨x',?_⟩
    show p.rc _ cs (f x')
    rw [hx']
    simpa using hy
  ·cases hx⟩
theorem zq{W' :World}{S' :SH}(h:dV kH W S W' S'):Below W.heap.size W W' :=⟨h.os,h.tape,h.output,h.size,fun k hk=>h.heap k hk (fun h=>h)⟩
theorem ru(hl:laidOutB P=true){W W' :World}(hb:Below W.heap.size W W'){sp:Nat→Bool}: ∀{ts:List TypeId} {vs:List Value} {ds:List (DataW H)} {ps:List MemPlace},(∀t∈ts,P.readableRec t=true∧t<P.types.size)→
  DataW.TrodAll enc P W 0 (fun _=>true) true ts vs ds ps→(∀p∈ps,p.block<W.heap.size)→(∀p∈ps,sp p.block=true)→DataW.TrodAll enc P W' 0 sp true ts vs ds ps
 |[],[],[],_,_,h,_,_=>h
 |t::ts,v::vs,d::ds,_,hr,⟨p,q,h1,h2,e⟩,hlt,hsp=>by
  subst e
  have ht:=hr t (oQ ..)
  exact⟨p,q,WideElems.Trod_stays hl ht.1 ht.2 h1 (fun x hx=>hb.same (hlt x (Di _ hx))) (fun x hx=>hsp x (Di _ hx)),
   ru hl hb (fun t ht=>hr t (oy _ ht)) h2 (fun x hx=>hlt x (List.mem_append_right _ hx)) (fun x hx=>hsp x (List.mem_append_right _ hx)),rfl⟩
theorem E6{f:Func}{s:ChangeSpec}{apart fresh handsOn again:Bool}{W' :World}{args:Array Value}{ds gs:List (DataW H)}{before:List MemPlace}{tb:TypeId}(hl:laidOutB P=true)(hr: ∀t∈f.params.toList,P.readableRec t=true∧t<P.types.size)(hvs:s.vars=[])(hres:f.resultTypes= #[tb])(htb:P.underlying tb=some .bool)(hW:DataW.Whole enc P f.params.toList s.vars apart W args.toList ds gs before)(hs:s.fn H (ds++gs)={results:=[.lit (.bool true)],args:=ds})(hb:Below W.heap.size W W'):
  s.post enc P f apart fresh handsOn again W args (.bool true) W' :=by
 have hW0:=hW
 have hlt:=hW.lt
 obtain⟨pa,pv,hA,hV,rfl,hz,hn⟩:=hW
 rw [hvs]at hV
 have hpv:pv=[]:=by
  cases gs with
  |nil=>exact hV
  |cons g gs=>exact hV.elim
 subst hpv
 have hlt' : ∀p∈pa,p.block<W.heap.size:=fun p hp=>hlt p (by simpa using hp)
 have hargs: ∀sp:Nat→Bool,(∀p∈pa,sp p.block=true)→DataW.TrodAll enc P W' 0 sp true f.params.toList args.toList ds pa:=fun sp hsp=>ru hl hb hr hA hlt' hsp
 have hresT: ∀(b:Nat) (sp:Nat→Bool) (hd:Bool),DataW.TrodAll enc P W' b sp hd f.resultTypes.toList ((Value.bool true).resultList f.resultTypes.size) [.lit (.bool true)] []:=fun b sp hd=>by
  rw [hres]
  exact⟨[],[],⟨1,by simp [DataW.trod,htb,Value.cells]⟩,rfl,rfl⟩
 have hvT: ∀sp:Nat→Bool,DataW.TrodVars enc P W' sp s.vars (s.fn H (ds++gs)).vars []:=fun sp=>by
  rw [hvs,hs];rfl
 have hargs' : ∀sp:Nat→Bool,(∀p∈pa,sp p.block=true)→DataW.TrodAll enc P W' 0 sp true f.params.toList args.toList (s.fn H (ds++gs)).args pa:=fun sp hsp=>by rw [hs];exact hargs sp hsp
 have hres' : ∀(b:Nat) (sp:Nat→Bool) (hd:Bool),DataW.TrodAll enc P W' b sp hd f.resultTypes.toList ((Value.bool true).resultList f.resultTypes.size) (s.fn H (ds++gs)).results []:=fun b sp hd=>by rw [hs];exact hresT b sp hd
 have hold: ∀p∈pa,(fun b=>decide (b<W.heap.size)) p.block=true:=fun p hp=>by simpa using hlt' p hp
 refine⟨ds,gs,pa++[],[],pa,[],hW0,hres' _ _ _,hargs' _ hold,hvT _,World.keptBut_mono (fun p hp=>⟨hp,?_⟩) (hb.frame _),fun _=>?_⟩
 ·right;simpa using hp
 ·refine⟨?_,_,_,([]++pa)++[],⟨[]++pa,[],trodAll_append (hargs' _ (fun _ _=>rfl)) (hres' _ _ _),hvT _,rfl,?_,?_⟩,?_⟩
  ·intro j t r h1 h2
   rw [hres]at h1 h2
   cases j with
   |zero=>
    simp [Value.resultList]at h1 h2
    subst h1 h2
    simp [Value.okWide,htb,Cell.okWide,Cell.ok]
   |succ j=>simp at h1
  ·intro b off hp
   have hp' :MemPlace.cell b off∈pa:=by simpa using hp
   have:=hlt' _ hp'
   rw [hb.frozen (p:=⟨b,off,none⟩) this]
   exact hz b off (by simpa using hp')
  ·intro ha
   have:=hn ha
   simpa using this
  ·intro p hp _
   simpa using hp
end

variable{ok:α→Prop}
section
def qv{α:Type}(r:Rp α)(ok:α→Prop):Rp α where
 sz:=r.sz
 agg:=r.agg
 rc:=fun S cs x=>r.rc S cs x∧ok x
 mono:=fun h k=>⟨r.mono h k.1,k.2⟩
 len:=fun k=>r.len k.1
 one:=fun k=>r.one k.1
 sc:=r.sc
def mL(k:IntKind)(n:Int):Prop:=k.min≤n∧n≤k.max
def LT(s:jy):Prop:=s.length≤maxLen
def F1{α:Type}(ok:α→Prop)(xs:List α):Prop:=xs.length≤maxLen∧ ∀x∈xs,ok x
def JN{α:Type}(_:α):Prop:=True
theorem vI(h:P.underlying t=some (.int k))(hc:P.cellsOf t=1):rK enc P W t (qv (rI k) (mL k)):=⟨hc,fun fuel cs x hx=>by
 cases fuel with
 |zero=>simp [DataW.trod]at hx
 |succ n=>
  unfold DataW.trod at hx
  rw [h]at hx
  split at hx
  all_goals try (injections;done)
  ·rename_i k1 k2 m heq
   injection heq with e
   injection e with e
   subst e
   split at hx
   ·rename_i h2
    obtain⟨rfl,h3⟩:=h2
    simp only [Lit.wf,jz,zM]at h3
    exact⟨m,rfl,h3⟩
   ·cases hx⟩
theorem EC(h:P.underlying t=some .string)(hc:P.cellsOf t=1):rK enc P W t (qv rS LT):=⟨hc,fun fuel cs x hx=>by
 cases fuel with
 |zero=>simp [DataW.trod]at hx
 |succ n=>
  unfold DataW.trod at hx
  rw [h]at hx
  split at hx
  all_goals try (injections;done)
  ·rename_i s heq
   split at hx
   ·rename_i h2;exact⟨s.data.toList,rfl,(show s.data.toList.length≤maxLen from(show s.size=s.data.toList.length from rfl)▸h2)⟩
   ·cases hx⟩
theorem Dq(h:P.underlying t=some .bool)(hc:P.cellsOf t=1):rK enc P W t (qv rB JN):=
 ⟨hc,fun fuel cs x hx=>by obtain⟨y,hy⟩:=(ED (enc:=enc) (W:=W) h hc).2 fuel cs x hx;exact⟨y,hy,trivial⟩⟩
def zx{α:Type}(r' r:Rp α)(ok:α→Prop):Prop:=r'.sz=r.sz∧r'.agg=r.agg∧ ∀S cs x,r'.rc S cs x→r.rc S cs x∧ok x
theorem eZ:zx (qv r ok) r ok:=⟨rfl,rfl,fun _ _ _ h=>h⟩
theorem Cy{α:Type}{r' r:Rp α}{ok:α→Prop}(h:zx r' r ok){S:SH}: ∀{xs:List α} {cs:List Value},oE r' S cs xs→oE r S cs xs∧ ∀x∈xs,ok x
 |[],_,k=>⟨k,fun x hx=>by cases hx⟩
 |x::xs,_,⟨a,b,e,h1,h2⟩=>by
  obtain⟨g1,g2⟩:=h.2.2 _ _ _ h1
  obtain⟨g3,g4⟩:=Cy h h2
  exact⟨⟨a,b,e,g1,g3⟩,fun y hy=>by
   rcases fS.1 hy with rfl|hy
   ·exact g2
   ·exact g4 y hy⟩
theorem pb{r' :Rp α}(h:zx r' r ok):zx (dG r') (dG r) (F1 ok):=⟨rfl,rfl,fun S cs xs ⟨a,cap,e,h1,h2,h3⟩=>by
 rcases h3 with h3|⟨b,off,c,E,fr,e1,e2,e3⟩
 ·exact⟨⟨a,cap,e,h1,h2,.inl h3⟩,by omega,fun x hx=>by rw [h3]at hx;cases hx⟩
 ·rw [h.1]at e3
  obtain⟨g1,g2⟩:=Cy h e3
  exact⟨⟨a,cap,e,h1,h2,.inr ⟨b,off,c,E,fr,e1,e2,g1⟩⟩,by omega,g2⟩⟩
theorem dr{p' :Rp α}{q' :Rp β}{f:α→Prop}{g:β→Prop}(h:zx p' p f)(k:zx q' q g):zx (bP p' q') (bP p q) (fun x=>f x.1∧g x.2):=
 ⟨by show p'.sz+q'.sz=p.sz+q.sz;rw [h.1,k.1],rfl,fun S cs x ⟨a,b,e,h1,h2⟩=>⟨⟨a,b,e,(h.2.2 _ _ _ h1).1,(k.2.2 _ _ _ h2).1⟩,(h.2.2 _ _ _ h1).2,(k.2.2 _ _ _ h2).2⟩⟩
theorem mI{p' :Rp α}{f:β→α}(h:zx p' p ok):zx (il p' f) (il p f) (fun x=>ok (f x)):=
 ⟨h.1,rfl,fun S cs x k=>h.2.2 _ _ _ k⟩
theorem C1{r' :Rp α}(h:rK enc P W t r')(hr:zx r' r ok)(hag:r.agg=true){d:DataW H}{ps:List MemPlace}(hv:DataW.Trod enc P W 0 (fun _=>true) true t v d ps)(hc:v= .agg v.cells): ∃y,(tD r y).p (AA W) v∧ok y:=by
 obtain⟨fuel,hx⟩:=hv
 obtain⟨y,hy⟩:=h.2 _ _ _ hx
 obtain⟨g1,g2⟩:=hr.2.2 _ _ _ hy
 exact⟨y,⟨_,by unfold Rp.val;rw [hag,cO rfl];exact hc,g1⟩,g2⟩
theorem th{l:Array Field}(ht:P.underlying t=some (.struct l))(hv:Value.okWide P W .any base t v):v= .agg v.cells:=by
 unfold Value.okWide at hv
 rw [ht]at hv
 obtain⟨cs,e,_⟩:=hv
 rw [e]
 rfl
end

variable{Ds:List (DataW Unit)}
section
variable{held:Bool}
def HO(P:Program)(W:World)(held:Bool)(t:TypeId)(D:DataW Unit)(cells:List Value):Prop:=
 P.cellsOf t=cells.length∧ ∀fuel cs x,DataW.trod (fun _=>()) P W 0 (fun _=>true) held fuel t cs=some x→x.1=D→cs=cells
theorem yE{n:Int}(h:P.underlying t=some (.int k))(hc:P.cellsOf t=1):HO P W held t (.lit (.int k n)) [.int k n]:=⟨hc,fun fuel cs x hx hD=>by
 obtain⟨m,h1,h2,_⟩:=DataW.trod_int h hx
 subst h2
 simp only [DataW.lit.injEq,Lit.int.injEq,true_and]at hD
 rw [h1,hD]⟩
theorem dl{s:List UInt8}(h:P.underlying t=some .string)(hc:P.cellsOf t=1):HO P W held t (.lit (.string s)) [.string ⟨s.toArray⟩]:=⟨hc,fun fuel cs x hx hD=>by
 obtain⟨m,h1,h2,_⟩:=DataW.trod_string h hx
 subst h2
 simp only [DataW.lit.injEq,Lit.string.injEq]at hD
 subst hD
 rw [h1]⟩
def FC(P:Program)(W:World)(held:Bool)(off:Nat)(l:List (TypeId×Nat))(Ds:List (DataW Unit))(cells:List Value):Prop:=
 ∀(n:Nat) (cs:List Value),cs.length=off+cells.length→(∀(i:Nat) f,l[i]? =some f→ ∃x,DataW.trod (fun _=>()) P W 0 (fun _=>true) held n f.1 ((cs.drop f.2).take (P.cellsOf f.1))=some x∧Ds[i]? =some x.1)→cs.drop off=cells
theorem wu{off:Nat}:FC P W held off [] [] []:=fun n cs hl _=>Dk (by simp at hl;omega)
theorem cL{off off' :Nat}{D:DataW Unit}{c:List Value}(h:HO P W held t D c)(ho:off' =off+c.length)(k:FC P W held off' l Ds cells):FC P W held off ((t,off)::l) (D::Ds) (c++cells):=fun n cs hl hx=>by
 obtain⟨x,h1,h2⟩:=hx 0 (t,off) rfl
 simp only [List.getElem?_cons_zero,zO]at h2
 have h3:=h.2 n _ x h1 h2.symm
 have h4:=k n cs (by rw [hl,ho,kJ];omega) fun i f hf=>by simpa using hx (i+1) f (by simpa using hf)
 have e:cs.drop off=(cs.drop off).take (P.cellsOf t)++cs.drop off' :=by
  rw [ho,←h.1,←sw,pY]
 rw [e,h4]
 exact congrArg (· ++cells) h3
theorem rW(ht:(P.underlying t).map (fun d=>match d with| .struct l=>(true,l.toList.map fun f=>(f.type,f.offset))|_=>(false,[]))=some (true,l))(hc:P.cellsOf t=cells.length)(hf:FC P W held 0 l Ds cells):HO P W held t (.agg Ds) cells:=⟨hc,fun fuel cs x hx hD=>by
 obtain⟨fs,h1,h2⟩: ∃fs,P.underlying t=some (.struct fs)∧fs.toList.map (fun f=>(f.type,f.offset))=l:=by
  cases hu:P.underlying t with
  |none=>rw [hu]at ht;cases ht
  |some d=>
   rw [hu]at ht
   cases d<;>simp at ht
   exact⟨_,rfl,ht⟩
 obtain⟨xs,n,rfl,h3,h4,h5,h6⟩:=DataW.trod_struct h1 hx
 rw [h3]at hD
 simp only [DataW.agg.injEq]at hD
 have:=hf n cs (by rw [h4,hc];omega) fun i f hi=>by
  rw [←h2,Df]at hi
  obtain⟨f0,hf0,rfl⟩:=sy.1 hi
  have h7:=h6 i f0 (by simpa using hf0)
  have hlt:i<xs.length:=by
   have:=(mC.1 hf0).1
   rw [h5];simpa using this
  rw [oV hlt]at h7
  exact⟨xs[i],h7,by rw [←hD];simp [hlt]⟩
 rwa [Ba]at this⟩
theorem Cu{m:Nat}(ht:P.underlying t=some (.array m e))(hc:P.cellsOf t=cells.length)(hf:FC P W held 0 ((List.range m).map fun i=>(e,i*P.cellsOf e)) Ds cells):HO P W held t (.agg Ds) cells:=⟨hc,fun fuel cs x hx hD=>by
 obtain⟨xs,n,rfl,h3,h4,h5,h6⟩:=DataW.trod_array ht hx
 rw [h3]at hD
 simp only [DataW.agg.injEq]at hD
 have:=hf n cs (by rw [h4,hc];omega) fun i f hi=>by
  rw [Df]at hi
  obtain⟨j,hj,rfl⟩:=sy.1 hi
  obtain⟨hlt,hj2⟩:=mC.1 hj
  simp at hlt hj2
  subst hj2
  have h7:=h6 i hlt
  have hlt' :i<xs.length:=by rw [h5];exact hlt
  rw [oV hlt']at h7
  exact⟨xs[i],h7,by rw [←hD];simp [hlt']⟩
 rwa [Ba]at this⟩
theorem AB: ∀{L:List (String×DataW Unit)} {ps:List MemPlace},DataW.LaidVars P W L ps→ ∀n d,(n,d)∈L→ ∃g t cs fuel p,P.globalNamed n=some g∧(P.globals[g]?).map (·.type)=some t∧W.var? P n=some cs∧DataW.trod (fun _=>()) P W 0 (fun _=>true) false fuel t cs.toList=some (d,p)
 |(_,_)::_,_,⟨g,t,cs,fuel,p,_,h1,h2,h3,h4,_,_⟩,_,_,.head _=>⟨g,t,cs,fuel,p,h1,h2,h3,h4⟩
 |(_,_)::_,_,⟨_,_,_,_,_,_,_,_,_,_,h,_⟩,n,d,.tail _ hm=>AB h n d hm
theorem sZ{L:List (String×DataW Unit)}(h:laidMet P L W){n:String}{d:DataW Unit}(hm:(n,d)∈L){g:Nat}(hg:P.globalNamed n=some g)(ht:(P.globals[g]?).map (·.type)=some t)(hc:HO P W false t d cells):
  ∃c T fr,W.heap[g]? =some (.cells c T fr)∧c.toList.take cells.length=cells:=by
 obtain⟨ps,hL,_,_⟩:=h
 obtain⟨g',t',cs,fuel,p,h1,h2,h3,h4⟩:=AB hL n d hm
 obtain rfl:=kI (hg.symm.trans h1)
 obtain rfl:=kI (ht.symm.trans h2)
 have h5:=hc.2 fuel _ _ h4 rfl
 unfold World.var? at h3
 rw [hg]at h3
 simp only [n9]at h3
 split at h3
 ·rename_i c T fr hb
  cases h3
  exact⟨_,_,_,hb,by rw [h5,De]⟩
 ·cases h3
end


section
theorem hH{N:Fr}{y:α}(hag:r.agg=true)(hr: ∀S,r.rc S [v] y)(h:aL N G x (tV (.agg #[v]))):aL N G x (tD r y):=fun S a hf=>⟨[v],by rw [Rp.val,cO hag];exact h S a hf,hr S⟩
end

section
variable{N:Nat}{w0:World}{S0:SH}{fn:Func}{O1:List OE}{ι:Type}{t:ι→Ty}{O2:ι→List OE}
end
section
variable{c:Code}
end


theorem J{α:Sort _}{a:α}:a=a:=rfl
theorem aV:True:=trivial
abbrev bK(x:Int):Ty:=tD (rI .i64) x
abbrev eD(x:Bool):Ty:=tD rB x
abbrev f7{α:Type}(l:List α):Ty:=tD (rI .i64) (l.length:Int)
abbrev dK:Rp (List Int):=dG (rI .i64)
abbrev dE(l:List Int):Ty:=tD (dG (rI .i64)) l
abbrev dS{α:Type}(r:Rp α)(l:List α):Ty:=tD (dG r) l
abbrev mg{α:Type}(l:Option Nat)(c:Nat)(xs:List α):Ty:=tV (aC l c xs.length)
theorem bn: ∀{G' G:gW},G'.map (fun p=>look G p.1)=G'.map (fun p=>some p.2)→Bt G' G
 |[],_,_=>trivial
 |(_,_)::_,_,h=>⟨(List.cons.inj h).1,bn (List.cons.inj h).2⟩

variable{sz:Nat}
section
theorem cn{x:Nat}{t:Ty}(h:look G x=some t):bN E O G ⟨dst,.move (.tmp x),ty,pos,after,g⟩ t:=bv (ht h)
theorem tK{x:Nat}{t:Ty}(h:look G x=some t):bN E O G ⟨dst,.assign (.tmp x),ty,pos,after,g⟩ t:=aP (ht h)
theorem dW{n:Int}:bN E O G ⟨dst,.assign (.const (.int k n)),ty,pos,after,g⟩ (tD (rI k) n):=aP hI
theorem eL:bN E O G ⟨dst,.assign (.const (.bool b)),ty,pos,after,g⟩ (tD rB b):=aP hB
theorem bq{x:α}{p:Nat}{bytes:Nat}{agg:Bool}{z:List Value}(ti:TI E.P U sz bytes agg z)(hp:look G p=some (bl r x))(hs:(r.sz,r.agg)=(sz,agg)):
  bN E O G ⟨dst,.load U (.tmp p),ty,pos,after,g⟩ (tD r x):=be ti (Prod.mk.inj hs).1 (Prod.mk.inj hs).2 (ht hp)
theorem cc{get:α→β}{x:α}{off:Nat}{p:Nat}(hf:bJ E.P T i=some (off,sz))(hq:ib r off q get)(hp:look G p=some (bl r x))(h0:(!(Nat.beq sz 0)&&Nat.ble (off+q.sz) r.sz)=true):bN E O G ⟨dst,.fieldAddr T (.tmp p) i,ty,pos,after,g⟩ (bl q (get x)):=
 ft hf (by cases h:Nat.beq sz 0<;>simp [h]at h0 ⊢) hq (by revert h0;cases Nat.ble (off+q.sz) r.sz<;>simp) (ht hp)
theorem fV{x:Nat}(hu:E.P.underlying t=some (.slice e))(hx:look G x=some (tD (dG r) xs)):
  bN E O G ⟨dst,.call ⟨.builtin .len,#[.tmp x],#[t]⟩,ty,pos,after,g⟩ (tD (rI .i64) (xs.length:Int)):=bY hu (ht hx)
theorem jf{ts:List Ty}{x:Nat}{t:Ty}(hi:ts[i]? =some t)(hx:look G x=some (tT ts)):bN E O G ⟨dst,.extract (.tmp x) i,ty,pos,after,g⟩ t:=wg hi (ht hx)
theorem gP{v:α}{x:Nat}(hx:look G x=some (tD r v)):bN E O G ⟨dst,.box T (.tmp x),ty,pos,after,g⟩ (bl r v):=BN (ht hx)
theorem kG{x:Nat}{q:Bool}(hc:look G c=some (tD rB b))(hx:look G x=some (kO b (tD rB q))):bN E O G ⟨dst,.pick (.tmp c) (.tmp x) (.const (.bool false)),ty,pos,after,g⟩ (tD rB (b&&q)):=ki (ht hc) (fun hb=>bc hx hb)
theorem oB{x:Nat}{q:Bool}(hc:look G c=some (tD rB b))(hx:look G x=some (kO (!b) (tD rB q))):bN E O G ⟨dst,.pick (.tmp c) (.const (.bool true)) (.tmp x),ty,pos,after,g⟩ (tD rB (b||q)):=lA (ht hc) (fun hb=>bc hx (mj hb))
variable{xt yt:TypeId}{x y:Nat}{m n:Int}
theorem em(hx:look G x=some (tD (rI k) m))(hy:look G y=some (tD (rI k) n)):bN E O G ⟨dst,.binOp .lss xt (.tmp x) (.tmp y) yt,ty,pos,after,g⟩ (tD rB (decide (m<n))):=eg (ht hx) (ht hy)
theorem jS{j:IntKind}(hx:look G x=some (tD (rI j) m)):bN E O G ⟨dst,.binOp .eql xt (.tmp x) (.const (.int j n)) yt,ty,pos,after,g⟩ (tD rB (m==n)):=bW (ht hx) hI
theorem zQ{j:IntKind}(hx:look G x=some (tD (rI j) m)):bN E O G ⟨dst,.binOp .neq xt (.tmp x) (.const (.int j n)) yt,ty,pos,after,g⟩ (tD rB (m !=n)):=cK (ht hx) hI
theorem jA{y:α}{x ix:Nat}{k:IntKind}{i:Int}{bytes:Nat}{agg:Bool}{z:List Value}(hu:E.P.underlying t=some (.slice e))(ti:TI E.P e sz bytes agg z)(hsz:r.sz=sz)(hx:look G x=some (tD (dG r) xs))(hi:look G ix=some (tD (rI k) i))(hy:eh xs i=some y):
  bN E O G ⟨dst,.indexAddr t (.tmp x) (.tmp ix),ty,pos,after,g⟩ (bl r y):=aO hu ti hsz (ht hx) (ht hi) hy
theorem jY{x:Nat}{xt yt:TypeId}(hi:i<9223372036854775807)(hx:look G x=some (tD (rI .i64) (i:Int))):
  bN E O G ⟨dst,.binOp .add xt (.tmp x) (.const (.int .i64 1)) yt,ty,pos,after,g⟩ (tD (rI .i64) ((i+1:Nat):Int)):=rd hi (ht hx) hI
theorem d3{off b o:Nat}{p:Nat}(n:Nat)(hf:bJ E.P T i=some (off,sz))(h0:Nat.beq sz 0=false)(hp:look G p=some (tV (aE b o)))(he:o+off=n):bN E O G ⟨dst,.fieldAddr T (.tmp p) i,ty,pos,after,g⟩ (tV (aE b n)):=gG (n:=n) hf h0 (ht hp) he
end
variable{op:Op}{ops:Array Oper}
section
variable{l:List Oper}
theorem zo{t:Ty}(hd:Nat.blt d E.N.n=true)(h:bN E O G ⟨some d,op,ty,pos,after,none⟩ t)(k:RG E ops Q l O ((d,t)::G)):
  RG E ops Q (⟨some d,op,ty,pos,after,none⟩::l) O G:=n0 h hd k
def HA(n d:Nat)(r:Option Ty):Option Ty:=if Nat.blt d n then r else none
theorem gw{r:Option Ty}{t:Ty}(h:HA n d r=some t):Nat.blt d n=true∧r=some t:=by
 unfold HA at h;split at h
 case isTrue h1=>exact⟨h1,h⟩
 case isFalse=>cases h
theorem aG{x:Nat}{t:Ty}(h:HA E.N.n d (look G x)=some t)(k:RG E ops Q l O ((d,t)::G)):
  RG E ops Q (⟨some d,.move (.tmp x),ty,pos,after,none⟩::l) O G:=n0 (bv (ht (gw h).2)) (gw h).1 k
theorem bB{x:Nat}{t:Ty}(h:HA E.N.n d (look G x)=some t)(k:RG E ops Q l O ((d,t)::G)):
  RG E ops Q (⟨some d,.assign (.tmp x),ty,pos,after,none⟩::l) O G:=n0 (aP (ht (gw h).2)) (gw h).1 k
theorem aw(h:CG E Q y O G):RG E ops (Exit.then (y.wpIn (fw E.r) 0 E.P Q) Q) [] O G:=aQ (aq h)
theorem ay{id:Nat}{l:List Oper}(h:RG E l.toArray (Exit.then (y.wpIn (fw E.r) 0 E.P Q) Q) l O G):CG E Q (.seq (.region id l.toArray false) y) O G:=ae (am h)
theorem db{β:Type _}{X Y:Option β}{r:β}{x:Code}(h:(if b=true then X else Y)=some r)(hb:look G c=some (tD rB b))(hx:X=some r→CG E Q x O G)(hy:Y=some r→CG E Q y O G):CG E Q (.cond (.tmp c) x y) O G:=
 lh (ht hb) (fun hc=>hx (ct h hc)) (fun hc=>hy (cf h hc))
theorem dB(h:CG E Q y O G):CG E (Exit.then (y.wpIn (fw E.r) 0 E.P Q) Q) .skip O G:=bE (aq h)
theorem cb{t:Ty}(hj:(ops[j]?).bind (·.dst)=some gs)(hg:HA E.N.n gs (HA E.N.n d (look G gs))=some (tD rB b))(h:b=true→bN E O G ⟨some d,op,ty,pos,after,some (j,true)⟩ t)(k:RG E ops Q l O ((d,kO b t)::G)):RG E ops Q (⟨some d,op,ty,pos,after,some (j,true)⟩::l) O G:=Hu hj (gw hg).1 (gw (gw hg).2).2 (gw (gw hg).2).1 h k
theorem cR{t:Ty}(hj:(ops[j]?).bind (·.dst)=some gs)(hg:HA E.N.n gs (HA E.N.n d (look G gs))=some (tD rB b))(h:(!b)=true→bN E O G ⟨some d,op,ty,pos,after,some (j,false)⟩ t)(k:RG E ops Q l O ((d,kO (!b) t)::G)):RG E ops Q (⟨some d,op,ty,pos,after,some (j,false)⟩::l) O G:=Hv hj (gw hg).1 (gw (gw hg).2).2 (gw (gw hg).2).1 h k
end
theorem bG{α:Type _}{β:Type _}{x:Option α}{k:α→Option β}{r:β}{P:Prop}(h:x.bind k=some r)(f: ∀y,x=some y→k y=some r→P):P:=by
 obtain⟨y,h1,h2⟩:=bs h;exact f y h1 h2
variable{u1:Ty}
section
variable{l:List Oper}{ts:List Ty}{t:Ty}
theorem vj{a c:Bool}(h:(a&&b&&c)=true):a=true∧b=true∧c=true:=by revert h;cases a<;>cases b<;>cases c<;>simp
theorem Kh{x:Option α}(h:x.isNone=true):x=none:=by cases x;rfl;cases h
theorem JT(h:ts[i]? =some t)(hb:(di i o&&o.guard.isNone)=true)(k:bN E O [] o t): ∃(needs:List Nd) (t:Ty),ts[i]? =some t∧nu G ts needs∧(needs.all (kP l o i))=true∧di i o=true∧bH E O l.toArray (fv needs) o t:=
 ⟨[],t,h,trivial,rfl,(zN.1 hb).1,af (Kh (zN.1 hb).2) k⟩
theorem dT(a:Nat)(h:ts[i]? =some t)(hu:qV G ts ⟨a,u,none⟩)(hb:([(⟨a,u,none⟩:Nd)].all (kP l o i)&&di i o&&o.guard.isNone)=true)(k:bN E O [(a,u)] o t): ∃(needs:List Nd) (t:Ty),ts[i]? =some t∧nu G ts needs∧(needs.all (kP l o i))=true∧di i o=true∧bH E O l.toArray (fv needs) o t:=
 ⟨[(⟨a,u,none⟩:Nd)],t,h,⟨hu,trivial⟩,(vj hb).1,(vj hb).2.1,af (Kh (vj hb).2.2) k⟩
theorem cP(a:Nat)(j:Nat)(h:ts[i]? =some t)(hu:qV G ts ⟨a,u,(some j)⟩)(hb:([(⟨a,u,(some j)⟩:Nd)].all (kP l o i)&&di i o&&o.guard.isNone)=true)(k:bN E O [(a,u)] o t): ∃(needs:List Nd) (t:Ty),ts[i]? =some t∧nu G ts needs∧(needs.all (kP l o i))=true∧di i o=true∧bH E O l.toArray (fv needs) o t:=
 ⟨[(⟨a,u,(some j)⟩:Nd)],t,h,⟨hu,trivial⟩,(vj hb).1,(vj hb).2.1,af (Kh (vj hb).2.2) k⟩
theorem nz(a:Nat)(a1:Nat)(j1:Nat)(h:ts[i]? =some t)(hu:qV G ts ⟨a,u,none⟩)(hu1:qV G ts ⟨a1,u1,(some j1)⟩)(hb:([(⟨a,u,none⟩:Nd),⟨a1,u1,(some j1)⟩].all (kP l o i)&&di i o)=true)(k:bH E O l.toArray [(a,u),(a1,u1)] o t): ∃(needs:List Nd) (t:Ty),ts[i]? =some t∧nu G ts needs∧(needs.all (kP l o i))=true∧di i o=true∧bH E O l.toArray (fv needs) o t:=
 ⟨[(⟨a,u,none⟩:Nd),⟨a1,u1,(some j1)⟩],t,h,⟨hu,hu1,trivial⟩,(zN.1 hb).1,(zN.1 hb).2,k⟩
theorem dL(a:Nat)(j:Nat)(a1:Nat)(j1:Nat)(h:ts[i]? =some t)(hu:qV G ts ⟨a,u,(some j)⟩)(hu1:qV G ts ⟨a1,u1,(some j1)⟩)(hb:([(⟨a,u,(some j)⟩:Nd),⟨a1,u1,(some j1)⟩].all (kP l o i)&&di i o&&o.guard.isNone)=true)(k:bN E O [(a,u),(a1,u1)] o t): ∃(needs:List Nd) (t:Ty),ts[i]? =some t∧nu G ts needs∧(needs.all (kP l o i))=true∧di i o=true∧bH E O l.toArray (fv needs) o t:=
 ⟨[(⟨a,u,(some j)⟩:Nd),⟨a1,u1,(some j1)⟩],t,h,⟨hu,hu1,trivial⟩,(vj hb).1,(vj hb).2.1,af (Kh (vj hb).2.2) k⟩
theorem ie(a:Nat)(j:Nat)(a1:Nat)(j1:Nat)(h:ts[i]? =some t)(hu:qV G ts ⟨a,u,(some j)⟩)(hu1:qV G ts ⟨a1,u1,(some j1)⟩)(hb:([(⟨a,u,(some j)⟩:Nd),⟨a1,u1,(some j1)⟩].all (kP l o i)&&di i o)=true)(k:bH E O l.toArray [(a,u),(a1,u1)] o t): ∃(needs:List Nd) (t:Ty),ts[i]? =some t∧nu G ts needs∧(needs.all (kP l o i))=true∧di i o=true∧bH E O l.toArray (fv needs) o t:=
 ⟨[(⟨a,u,(some j)⟩:Nd),⟨a1,u1,(some j1)⟩],t,h,⟨hu,hu1,trivial⟩,(zN.1 hb).1,(zN.1 hb).2,k⟩
theorem rt(a:Nat)(j:Nat)(a1:Nat)(j1:Nat)(a2:Nat)(j2:Nat){u2:Ty}(h:ts[i]? =some t)(hu:qV G ts ⟨a,u,(some j)⟩)(hu1:qV G ts ⟨a1,u1,(some j1)⟩)(hu2:qV G ts ⟨a2,u2,(some j2)⟩)(hb:([(⟨a,u,(some j)⟩:Nd),⟨a1,u1,(some j1)⟩,⟨a2,u2,(some j2)⟩].all (kP l o i)&&di i o&&o.guard.isNone)=true)(k:bN E O [(a,u),(a1,u1),(a2,u2)] o t): ∃(needs:List Nd) (t:Ty),ts[i]? =some t∧nu G ts needs∧(needs.all (kP l o i))=true∧di i o=true∧bH E O l.toArray (fv needs) o t:=
 ⟨[(⟨a,u,(some j)⟩:Nd),⟨a1,u1,(some j1)⟩,⟨a2,u2,(some j2)⟩],t,h,⟨hu,hu1,hu2,trivial⟩,(vj hb).1,(vj hb).2.1,af (Kh (vj hb).2.2) k⟩
theorem rs(a:Nat)(j:Nat)(a1:Nat)(j1:Nat)(a2:Nat)(j2:Nat){u2:Ty}(h:ts[i]? =some t)(hu:qV G ts ⟨a,u,(some j)⟩)(hu1:qV G ts ⟨a1,u1,(some j1)⟩)(hu2:qV G ts ⟨a2,u2,(some j2)⟩)(hb:([(⟨a,u,(some j)⟩:Nd),⟨a1,u1,(some j1)⟩,⟨a2,u2,(some j2)⟩].all (kP l o i)&&di i o)=true)(k:bH E O l.toArray [(a,u),(a1,u1),(a2,u2)] o t): ∃(needs:List Nd) (t:Ty),ts[i]? =some t∧nu G ts needs∧(needs.all (kP l o i))=true∧di i o=true∧bH E O l.toArray (fv needs) o t:=
 ⟨[(⟨a,u,(some j)⟩:Nd),⟨a1,u1,(some j1)⟩,⟨a2,u2,(some j2)⟩],t,h,⟨hu,hu1,hu2,trivial⟩,(zN.1 hb).1,(zN.1 hb).2,k⟩
end

section
variable{c:Code}
theorem hBc{N:Fr}:aL N G (.const (.bool b)) (tD rB b):=hB
theorem FR(b:Bool){l:List Oper}(h1:b=true→RG E ops Q l O G)(h2:b=false→RG E ops Q l O G):RG E ops Q l O G:=by
 cases b with
 |true=>exact h1 rfl
 |false=>exact h2 rfl
theorem AV{d:Option Tmp}{pol:Bool}(hj:(ops[j]?).bind (·.dst)=some gs)(hgs:Nat.blt gs E.N.n=true)(hb:look G gs=some (tD rB b))(e:b=pol)(k:RG E ops Q (⟨d,op,ty,pos,after,none⟩::rest) O G):
  RG E ops Q (⟨d,op,ty,pos,after,some (j,pol)⟩::rest) O G:=fun a w S st=>by
 have hgs' :gs<a.tmps.size:=by rw [st.facts.size];simpa [oA] using hgs
 have hw:=oY (o:=⟨d,op,ty,pos,after,some (j,pol)⟩) rfl hj hgs' (kx hb S a st.facts)
 have h1:=k a w S st
 unfold wpListIn at h1 ⊢
 rw [hw,e]
 rw [cO (show Region.wanted ⟨d,op,ty,pos,after,none⟩ (yielded ops a.tmps)=true from rfl)]at h1
 rw [cO (show(true&&(pol==pol))=true from by simp)]
 exact h1
theorem wH{pol:Bool}(hj:(ops[j]?).bind (·.dst)=some gs)(hgs:Nat.blt gs E.N.n=true)(hb:look G gs=some (tD rB b))(e:b= !pol)(hd:Nat.blt d E.N.n=true)(k:RG E ops Q rest O ((d,tL)::G)):
  RG E ops Q (⟨some d,op,ty,pos,after,some (j,pol)⟩::rest) O G:=fun a w S st=>by
 have hgs' :gs<a.tmps.size:=by rw [st.facts.size];simpa [oA] using hgs
 have hw:=oY (o:=⟨some d,op,ty,pos,after,some (j,pol)⟩) rfl hj hgs' (kx hb S a st.facts)
 refine wpListIn_step fun K hK=>?_
 rw [hw,e,cQ (by cases pol<;>simp)]
 exact⟨fun _ _=>trivial,hK _ _ (k _ _ S (st.step (dI _ _ _) st.sat hd trivial))⟩
theorem DK{c y:Operand}{t:Ty}(hc:aL E.N G c (tD rB b))(e:b=true)(hx:aL E.N G x t):bN E O G ⟨dst,.pick c x y,ty,pos,after,g⟩ t:=ra hc (fun _=>hx) (fun h=>by rw [e]at h;cases h)
theorem DL{c y:Operand}{t:Ty}(hc:aL E.N G c (tD rB b))(e:b=false)(hy:aL E.N G y t):bN E O G ⟨dst,.pick c x y,ty,pos,after,g⟩ t:=ra hc (fun h=>by rw [e]at h;cases h) (fun _=>hy)
end

structure KeyA{κ:Type} [DecidableEq κ](P:Program)(kt:TypeId)(kv:κ→Value):Prop where
 chk: ∀e w k,(Instr.checkKey e 10000 kt (kv k)).run P w= .ok () w
 eql: ∀w a b,(Op.equal kt (kv a) (kv b)).run P w= .ok (decide (a=b)) w
 wide:(match P.underlying kt with|some (.array _ _)|some (.struct _)=>true|_=>false)=true
 same: ∀k,Instr.sameBits 10000 (kv k) (kv k)=true
 inj: ∀a b,kv a=kv b→a=b
def k2(l:List Int):Int×Int:=(l.getD 0 0,l.getD 1 0)
section
variable [DecidableEq κ]{k:κ}
end
section
variable [DecidableEq κ]{b:Nat}{k:κ}{i v:Operand}{dst:Option Nat}
end

section
variable [DecidableEq κ]{b:Nat}{k:κ}{i v:Operand}{dst:Option Nat}
end
variable{os:Array Obj}
section
variable [DecidableEq κ]{V:MV β}{b:Nat}{os:List (Option Nat×Nat)}{h:Option κ}{dst:Option Nat}
end
section
variable{e:Exit}
theorem yj{l:Option Nat}{ys:List α}{lo hi:Int}(k:Nat)(hs:dw xs lo hi=some ys)(hk:look G k=some (tV (jh r.sz l cap lo.toNat ys.length)))(h:AT E Q e (bV r U l cap xs::O) ((k,tD (dG r) ys)::G)):AT E Q e (bV r U l cap xs::O) G:=fun a w S st=>h a w S (st.viewAt hs hk)
end

section
variable [DecidableEq κ]
end
section
variable [DecidableEq κ]{b:Nat}{k:κ}{i v u:Operand}{dst:Option Nat}
end
open Go.Sort Go.Shelf

theorem sY{k:Nat}(h:k<w.heap.size):(grow w os).heap[k]? =w.heap[k]? :=by
 unfold grow;exact Array.getElem?_append_left h
theorem AC [Inhabited α]{enc:α→Value}{b off:Nat}{d:Array α}{k:Nat}(h:k≠b):(putRow enc w b off d).heap[k]? =w.heap[k]? :=by
 unfold putRow mapBlock
 rw [Array.getElem?_modify,cQ (Ne.symm h)]
theorem sX [Inhabited α]{enc:α→Value}{b off m:Nat}{d:Array α}{k:Nat}(hk:k<w.heap.size)(h:k≠b):(sortWorld enc w b off m d os).heap[k]? =w.heap[k]? :=by
 unfold sortWorld
 rw [sY (by rw [size_putRow];exact hk),AC h];rfl
theorem y9 [Inhabited α]{enc:α→Value}{b off m:Nat}{d:Array α}{c:Array Value}{fr:Nat×Nat}(h:w.heap[b]? =some (.cells c T fr)):
  (sortWorld enc w b off m d os).heap[b]? =some (.cells (putCells enc off d c) T fr):=by
 have hlt:=(oc.1 h).1
 unfold sortWorld
 rw [sY (by rw [size_putRow];exact hlt)]
 unfold putRow mapBlock
 rw [Array.getElem?_modify,cO rfl]
 show Option.map _ (w.heap[b]?)=_
 rw [h];rfl
theorem w7 [Inhabited α]{enc:α→Value}{d:Array α}{c:Array Value}(h:d.size≤c.size):(putCells enc 0 d c).toList.take d.size=d.toList.map enc:=by
 apply List.ext_getElem?
 intro k
 by_cases hk:k<d.size
 ·rw [wU hk]
  have hc:k<c.size:=by omega
  simp [putCells,hc,hk]
 ·rw [Dj (by simp;omega),Dj (by simp;omega)]
section
theorem AS{m:Nat}{l:Option Nat}(hl:m=n)(s:Nat)(hs:look G s=some (tV (aC l cap n)))(k:RG E ops Q rest O ((s,tV (aC l cap m))::G)):RG E ops Q rest O G:=by
 subst hl
 exact fun a w S st=>k a w S ⟨st.ext,st.sat,st.own,⟨st.facts.size,st.facts.defers,fun j t h=>by
  unfold look at h
  by_cases hb:Nat.beq s j=true
  ·rw [hb]at h
   have:=rM hb
   subst this
   have e:tV (aC l cap m)=t:=by simpa using h
   rw [←e];exact st.facts.at_ s _ hs
  ·rw [rO]at hb
   rw [hb]at h
   exact st.facts.at_ j t h⟩⟩
end

def JM{α:Type}(cmp:α×α→Option Int)(x y:α):Bool:=
 match cmp (x,y)with
 |some c=>decide (c<0)
 |none=>false
def Ki{α:Type}(lt:α→α→Bool)(x:α):List α→List α
 |[]=>[x]
 |y::ys=>if lt y x then y::Ki lt x ys else x::y::ys
def HC{α:Type}(lt:α→α→Bool):List α→List α
 |[]=>[]
 |x::xs=>Ki lt x (HC lt xs)
structure Good{α:Type}(cmp:α×α→Option Int)(xs:List α):Prop where
 len:xs.length≤1099511627776
 tot: ∀x∈xs,∀y∈xs,(cmp (x,y)).isSome=true
 irr: ∀x∈xs,JM cmp x x=false
 tr: ∀x∈xs,∀y∈xs,∀z∈xs,JM cmp x y=true→JM cmp y z=true→JM cmp x z=true
 anti: ∀x∈xs,∀y∈xs,JM cmp x y=false→JM cmp y x=false→x=y
def sortI(xs:List Int):List Int:=xs.mergeSort fun x y=>decide (x≤y)
theorem xq(xs:List Int):(sortI xs).length=xs.length:=by unfold sortI;simp
def yG(xs:List Int):Option (List Int):=if xs.length≤68719476736 then some (sortI xs)else none
theorem z6{xs ys:List Int}(h:yG xs=some ys):xs.length≤68719476736∧ys=sortI xs:=by
 unfold yG at h
 split at h
 ·exact⟨by assumption,by simpa using h.symm⟩
 ·cases h


theorem CB{k:IntKind}{S:SH}: ∀{xs:List Int} {cs:List Value},oE (rI k) S cs xs→cs=xs.map (Value.int k)
 |[],cs,h=>by rw [show cs=[]from h];rfl
 |x::xs,cs,⟨a,b,e,h1,h2⟩=>by
  rw [e,show a=[.int k x]from h1,CB h2]
  rfl
theorem CL{k:IntKind}{S:SH}: ∀xs:List Int,oE (rI k) S (xs.map (Value.int k)) xs
 |[]=>rfl
 |x::xs=>⟨[.int k x],_,rfl,rfl,CL xs⟩
theorem Dx{ρ:Ren}(L:Lays.n189 P ρ){l:Option Nat}{xs:List Int}(hlen0:xs.length≤68719476736)(hs:eR w S)(h:(d9 (rI .i64) T l cap xs).p w S):
  Calls P (ρ.f 189) #[aC l cap xs.length] w fun e w' =>e= .returned (.tuple #[])∧dV (fun k=>l=some k) w S w' S∧eR w' S∧(d9 (rI .i64) T l cap (sortI xs)).p w' S:=by
 cases l with
 |none=>
  have hx:xs=[]:=tG (by obtain⟨_,h4,_⟩:=h;exact h4.1)
  subst hx
  exact(Any.slices_Sort_int_none (P:=P) (ρ:=ρ) L none 0 w).mono fun _ _ ⟨h1,h2⟩=>by subst h2;exact⟨h1,dI _ _ _,hs,by simpa [sortI] using h⟩
 |some b=>
  obtain⟨cells0,⟨cur,hb,hle,hmax,hcs,hct⟩,hrc,hno0⟩:=h
  have hno:S b=none:=hno0 b rfl
  subst hct
  have h1:(rI .i64).sz=1:=rfl
  rw [h1,Nat.mul_one]at hcs hrc
  have hcells:=CB hrc
  have hH:Holds (Value.int .i64) w b 0 xs.toArray:=by
   intro j hj
   have hj' :j<xs.length:=by simpa using hj
   have hc:cur[j]? =some (Value.int .i64 xs.toArray[j]!):=by
    have:(cur.toList.take xs.length)[j]? =some (Value.int .i64 xs.toArray[j]!):=by
     rw [hcells,Df,getElem!_pos xs.toArray j hj]
     simp [hj']
    rw [wU (by omega)]at this
    simpa using this
   refine⟨by simp [World.cell?,hb,hc],?_⟩
   simp [World.frozen?,hb]
  have hblk:=(oc.1 hb).1
  have hcall:=calls_of_every_depth fun D=>AnyS.slices_Sort_int_alone (P:=P) (ρ:=ρ) L D b 0 cap xs w hH hblk (by omega)
  refine hcall.mono fun e w' ⟨he,n,os,hw⟩=>?_
  have hlen:=xq xs
  have hw2:w' =sortWorld (Value.int .i64) w b 0 n (sortI xs).toArray os:=hw
  subst hw2
  refine⟨he,⟨rfl,rfl,rfl,Nat.le_add_right _ _,?_,fun k hk hkb=>sX hk (fun e=>hkb (by rw [e])),SH.le_refl _,fun _ _ _=>rfl⟩,hs.same fun k o hk=>?_,⟨_,⟨_,y9 hb,by omega,hmax,?_,rfl⟩,?_,hno0⟩⟩
  ·unfold sortWorld;rw [size_grow,size_putRow];exact Nat.le_add_right _ _
  ·have hkb:k≠b:=fun e=>by subst e;rw [hno]at hk;cases hk
   exact sX (hs.lt hk) hkb
  ·simp [putCells,h1,hcs]
  ·have e1:(sortI xs).length*(rI .i64).sz=(sortI xs).toArray.size:=by rw [h1];simp
   rw [e1,w7 (by simp;omega)]
   exact CL (sortI xs)
section
theorem FS{ρ:Ren}(L:Lays.n189 E.P ρ){f:FuncId}(hf:ρ.f 189=f)(hc:ak E.P f=true){l:Option Nat}{xs ys:List Int}{ats:Array TypeId}(hy:yG xs=some ys)(hx:aL E.N G x (tV (aC l cap n)))(hn:n=xs.length)(hd:Nat.blt d E.N.n=true)(k:ys.length=n→RG E ops Q rest (d9 (rI .i64) T l cap ys::O) ((d,tL)::G)):RG E ops Q (⟨some d,.call ⟨.value (.func f),#[x],ats⟩,ty,pos,after,none⟩::rest) (d9 (rI .i64) T l cap xs::O) G:= .of rfl fun a w S st=>by
 obtain⟨hl0,rfl⟩:=z6 hy
 subst hf
 subst hn
 have h1:a.eval x=aC l cap xs.length:=hx S a st.facts
 have hr:(execOp a.eval ⟨some d,.call ⟨.value (.func (ρ.f 189)),#[x],ats⟩,ty,pos,after,none⟩).run E.P w= .ok (.enter (ρ.f 189) #[aC l cap xs.length]) w:=by
  have e0:a.eval (.func (ρ.f 189))= .func (.func (ρ.f 189)) #[] #[]:=rfl
  simp [execOp,resolve,e0,h1,Deferred.ofValue,invoke,dO hc]
 refine⟨fun c h=>(by cases h),?_⟩
 rw [hr]
 refine(Dx L hl0 st.sat st.own.1.1).mono fun e w' ⟨he,hext,hsat,hp⟩=>⟨_,he,?_⟩
 have hfp: ∀g∈O,∀b,g.fp b→ ¬(l=some b):=fun g hg b hb hl=>st.own.2.1 g hg b hl hb
 refine k (xq xs) _ _ S ⟨st.ext.step hext (fun c hc=>st.own.1.2 c hc),hsat,⟨⟨hp,st.own.1.2⟩,st.own.2.1,st.own.2.2.ext hext hfp⟩,?_⟩;exact(st.facts.mono hext.keep).put hd trivial
end
open Go.Lib

theorem lb(hle: ∀(b:Nat) (o:Obj),W.heap[b]? =some o→ ∃o',w.heap[b]? =some o' ∧w8 o o'){b:Nat}(h:W.cell? ⟨b,i,none⟩=some v):w.cell? ⟨b,i,none⟩=some v:=by
 unfold World.cell? at h ⊢
 cases hb:W.heap[b]? with
 |none=>simp [hb]at h
 |some o=>
  obtain⟨o',h1,h2⟩:=hle b o hb
  simp only [hb]at h
  simp only [h1]
  cases o with
  |cells c T fr=>
   obtain⟨l,rfl⟩:=h2
   simp only [Option.isSome_none,Bc,sv]at h ⊢
   rw [←Array.getElem?_toList]at h ⊢
   rw [wV (mC.1 h).1]
   exact h
  |_=>simp at h
theorem A4{g:Nat}{T:Array CaseRow}(hle: ∀(b:Nat) (o:Obj),W.heap[b]? =some o→ ∃o',w.heap[b]? =some o' ∧w8 o o')(h:CaseVar g T W):CaseVar g T w:=by
 obtain⟨R,oR,cap,h1,h2⟩:=h
 exact⟨R,oR,cap,lb hle h1,fun i hi=>⟨lb hle (h2 i hi).1,lb hle (h2 i hi).2.1,lb hle (h2 i hi).2.2.1,lb hle (h2 i hi).2.2.2.1,lb hle (h2 i hi).2.2.2.2⟩⟩
theorem zu{g3 g4:Nat}(hle: ∀(b:Nat) (o:Obj),W.heap[b]? =some o→ ∃o',w.heap[b]? =some o' ∧w8 o o')(h:Utf8Tabs g3 g4 W):Utf8Tabs g3 g4 w:=
 ⟨fun c hc=>lb hle (h.1 c hc),fun i hi=>⟨lb hle (h.2 i hi).1,lb hle (h.2 i hi).2⟩⟩
end Go.Proofs.YtnmjbolollcokaaGreatDoor

