/- cJ of this claim: W41, W42, W43, W21, W27, W45, W46, W47, W52, W53, W56, W57, W58, W59, W61, W62, W60, W44, W55, W29, W54. -/
import Derived.Test.YtnmjbolollcokaaGreatDoorRbV3
import Derived.Test.YtnmjbolollcokaaGreatDoorRbV2
import Derived.ProofKit
import Derived.OpenShut
import Derived.LaidMore
import Derived.Laws.Externs
import Derived.WideKeyRuns
import Derived.WideKeyEntry
import Derived.Shelf.GgSortFunc.Insertion
import Derived.Shelf.Slices.In.SortNone
import Derived.Test.YtnmjbolollcokaaGreatDoorRbV1
import Derived.Shelf.Unicode.CaseTo
import Derived.Shelf.Unicode.DecodeSlow
set_option linter.all false
namespace Go.Proofs.YtnmjbolollcokaaGreatDoor
open Go

def w8(es:List Bool)(done:Array Bool):List Nat:=(List.range es.length).filter fun k=>(es[k]?).getD false&&done.getD k false
def GA(es:List Bool)(i:Nat)(s:List Nat):List Nat:=(List.range es.length).filter fun k=>Nat.beq k i||s.contains k
def JA:List Nat→List Nat→Bool
 |[],[]=>true
 |a::s,b::t=>Nat.beq a b&&JA s t
 |_,_=>false
variable{b:Bool}{t:TypeId}
theorem B9: ∀{s t:List Nat},JA s t=true→s=t
 |[],[],_=>rfl
 |a::s,b::t,h=>by
  simp only [JA,ki]at h
  rw [q8 h.1,B9 h.2]
 |[],_::_,h=>by cases h
 |_::_,[],h=>by cases h
def Ev:List (List Nat×((Nat→OI)→List OE))→List Nat→(Nat→OI)→List OE
 |[],_,_=>[]
 |p::r,s,σ=>bif JA p.1 s then p.2 σ else Ev r s σ
variable{done:Array Bool}{es:List Bool}{k:IntKind}
theorem sy{k:Nat}:k∈w8 es done↔es[k]? =some true∧done.getD k false=true:=by
 unfold w8
 rw [List.mem_filter,xb,ki]
 constructor
 ·rintro⟨h1,h2,h3⟩
  refine⟨?_,h3⟩
  rw [uT h1]at h2 ⊢
  simpa using h2
 ·rintro⟨h1,h2⟩
  exact⟨(md.1 h1).1,by rw [h1];rfl,h2⟩
variable{i:Nat}
theorem D6(h:es[i]? =some false):w8 es (done.setIfInBounds i true)=w8 es done:=by
 unfold w8
 refine List.filter_congr fun k hk=>?_
 by_cases hik:i=k
 ·subst hik;rw [h];rfl
 ·rw [td false hik]
theorem Ht(h:es[i]? =some true)(hs:i<done.size):w8 es (done.setIfInBounds i true)=GA es i (w8 es done):=by
 unfold GA
 conv=>lhs;unfold w8
 refine List.filter_congr fun k hk=>?_
 by_cases hik:i=k
 ·subst hik;simp [h,hs]
 ·rw [td false hik]
  have hb:Nat.beq k i=false:=by
   cases hb:Nat.beq k i with
   |false=>rfl
   |true=>exact absurd (q8 hb).symm hik
  rw [hb,vp,Bool.eq_iff_iff,Ey,sy,ki]
  constructor
  ·rintro⟨h1,h2⟩
   refine⟨?_,h2⟩
   cases he:es[k]? with
   |none=>rw [he]at h1;cases h1
   |some b=>rw [he]at h1;simpa using h1
  ·rintro⟨h1,h2⟩
   exact⟨by rw [h1];rfl,h2⟩
def xj:List Nat→List (List Nat)
 |[]=>[[]]
 |k::l=>(xj l).map (k:: ·)++xj l
def u0(es:List Bool):List Nat:=(List.range es.length).filter fun k=>(es[k]?).getD false
variable{l:List (TypeId×Nat)}{α:Type}{p:Rp α}
theorem qo(p:Nat→Bool): ∀l:List Nat,l.filter p∈xj l
 |[]=>Df.2 rfl
 |k::l=>by
  unfold xj
  rw [vq]
  by_cases h:p k=true
  ·rw [List.filter_cons_of_pos h]
   exact .inl (pK.2 ⟨_,qo p l,rfl⟩)
  ·rw [List.filter_cons_of_neg h]
   exact .inr (qo p l)
theorem FM(es:List Bool)(done:Array Bool):w8 es done∈xj (u0 es):=by
 have:w8 es done=(u0 es).filter fun k=>done.getD k false:=by
  unfold w8 u0
  rw [List.filter_filter]
  refine List.filter_congr fun k _=>Bool.and_comm ..
 rw [this]
 exact qo _ _
def L9(L:List Oper)(es:List Bool)(i:Nat)(s:List Nat):Bool:=
 s.contains i||(u0 es).any fun k=>if s.contains k then iP L L.length k i||(u0 es).any fun j=> !s.contains j&&iP L L.length k j else iP L L.length i k
def Dl(L:List Oper)(es:List Bool)(i:Nat)(aas:List (List Nat)):Bool:=(xj (u0 es)).all fun s=>L9 L es i s||aas.any fun a=>JA a s
def A7{α:Type}(p:α→Prop):List α→Prop
 |[]=>True
 |a::l=>p a∧A7 p l
theorem A7.mem{p:α→Prop}: ∀{l:List α},A7 p l→ ∀a∈l,p a
 |_::_,⟨h,_⟩,_,.head _=>h
 |_::_,⟨_,h⟩,_,.tail _ hm=>A7.mem h _ hm
abbrev LV:=List (List Nat×((Nat→OI)→List OE))
def DT(E:En)(G:gT)(L:List Oper)(ts:List TS)(Ss:LV)(es0:List Bool):Nat→List Oper→List Bool→Prop
 |_,[],_=>True
 |i,o::rest,false::es=>(∃(needs:List NS) (t:TS) (aas:List (List Nat)),ts[i]? =some t∧pA G ts needs∧(needs.all fun n=>kz L o i (n.at fun _=>kp))=true∧dh i o=true∧D7 L es0 i t=true∧Dl L es0 i aas=true∧o.dst.isSome=true∧
   A7 (fun s=> ∀σ,bL E (Ev Ss s σ) L.toArray (px needs σ) o (t.at σ)) aas)∧DT E G L ts Ss es0 (i+1) rest es
 |i,o::rest,true::es=>(∃(needs:List NS) (t:TS) (aas:List (List Nat×List Nat)),ts[i]? =some t∧pA G ts needs∧(needs.all fun n=>kz L o i (n.at fun _=>kp))=true∧dh i o=true∧D7 L es0 i t=true∧Dl L es0 i (aas.map (·.1))=true∧(aas.all fun p=>JA (GA es0 i p.1) p.2)=true∧
   A7 (fun p:List Nat×List Nat=> ∀σ,gU E L.toArray (Ev Ss p.1 σ) (px needs σ) o (fun x=>Ev Ss p.2 (zR σ i x)) (fun x=>t.at (zR σ i x))) aas)∧DT E G L ts Ss es0 (i+1) rest es
 |_,_::_,[]=>False
variable{E:En}{G:gT}{L:List Oper}{Ss:LV}{e:TypeId}{j n:Nat}{o:Oper}{r:Rp α}{ts:List TS}{x:Operand}
theorem DT.get{es0:List Bool}: ∀(r:List Oper) (es:List Bool) (k:Nat),DT E G L ts Ss es0 k r es→ ∀(j:Nat) (o:Oper),r[j]? =some o→
    ∃e,es[j]? =some e∧ ∃(needs:List NS) (t:TS),ts[k+j]? =some t∧pA G ts needs∧(needs.all fun n=>kz L o (k+j) (n.at fun _=>kp))=true∧dh (k+j) o=true∧D7 L es0 (k+j) t=true∧
      (match e with
       |false=>o.dst.isSome=true∧ ∃aas,Dl L es0 (k+j) aas=true∧A7 (fun s=> ∀σ,bL E (Ev Ss s σ) L.toArray (px needs σ) o (t.at σ)) aas
       |true=> ∃aas:List (List Nat×List Nat),Dl L es0 (k+j) (aas.map (·.1))=true∧(aas.all fun p=>JA (GA es0 (k+j) p.1) p.2)=true∧A7 (fun p:List Nat×List Nat=> ∀σ,gU E L.toArray (Ev Ss p.1 σ) (px needs σ) o (fun x=>Ev Ss p.2 (zR σ (k+j) x)) (fun x=>t.at (zR σ (k+j) x))) aas):=by
  intro r
  induction r with
  |nil=>intro es k _ j o h;simp at h
  |cons p r ih=>
    intro es k h j o ho
    cases es with
    |nil=>exact h.elim
    |cons e es=>
      cases e with
      |false=>
        obtain⟨⟨needs,t,aas,g1,g2,g3,g4,g5,g6,g7,g8⟩,h2⟩:=h
        cases j with
        |zero=>
          simp at ho;subst ho
          exact⟨false,rfl,needs,t,g1,g2,g3,g4,g5,g7,aas,g6,g8⟩
        |succ j=>
          obtain⟨e',g1,g2⟩:=ih es (k+1) h2 j o (by simpa using ho)
          refine⟨e',by simpa using g1,?_⟩
          rw [show k+1+j=k+(j+1)from by omega]at g2
          exact g2
      |true=>
        obtain⟨⟨needs,t,aas,g1,g2,g3,g4,g5,g6,g7,g8⟩,h2⟩:=h
        cases j with
        |zero=>
          simp at ho;subst ho
          exact⟨true,rfl,needs,t,g1,g2,g3,g4,g5,aas,g6,g7,g8⟩
        |succ j=>
          obtain⟨e',g1,g2⟩:=ih es (k+1) h2 j o (by simpa using ho)
          refine⟨e',by simpa using g1,?_⟩
          rw [show k+1+j=k+(j+1)from by omega]at g2
          exact g2
structure HX(E:En)(G:gT)(l:List Oper)(ts:List TS)(Ss:LV)(es:List Bool)(done:Array Bool)(a:Act)(w:World)(S:SH)(σ:Nat→OI):Prop where
 ext:dQ E.B E.w0 E.S0 w S
 sat:eM w S
 own:ck E.base E.B w S (Ev Ss (w8 es done) σ)
 size:a.tmps.size=E.N.n
 defers:a.defers=E.N.ds
 dsz:done.size=l.length
 down: ∀j o,l[j]? =some o→done.getD j false=true→ ∀e∈o.after,Region.binds .any e=true→done.getD e.on false=true
 old: ∀k t,look G k=some t→(∀j o,l[j]? =some o→done.getD j false=true→o.dst≠some k)→t.p S (a.tmps.getD k undef)
 new: ∀j o d p,l[j]? =some o→done.getD j false=true→o.dst=some d→ts[j]? =some p→(p.at σ).p S (a.tmps.getD d undef)
 deps: ∀j p,done.getD j false=true→ts[j]? =some p→ ∀k∈p.1,done.getD k false=true
variable{S:SH}{d:Nat}{κ β:Type}{m:List (κ×β)}{ty:TypeId}{u:Ty}{v:Value}{w:World}
section
theorem HX.need{a:Act}{σ:Nat→OI}(h:HX E G L ts Ss es done a w S σ)(hi:L[i]? =some o)(hun:done.getD i true=false)(hwait: ∀e∈o.after,Region.binds .any e=true→done.getD e.on false=true){needs:List NS}(h1:pA G ts needs)(h2:(needs.all fun n=>kz L o i (n.at fun _=>kp))=true):cJ E.N S a (px needs σ):=by
 have hlt:i<done.size:=by rw [h.dsz];exact(md.1 hi).1
 have hun' :done.getD i false=false:=by
  simp [hlt]at hun ⊢;exact hun
 refine⟨h.size,h.defers,?_⟩
 have key: ∀n∈needs,(n.ty σ).p S (a.tmps.getD n.slot undef):=by
  intro n hn
  have hs:=kV.1 h2 n hn
  have ho:=h1.mem n hn
  unfold kz NS.at at hs
  unfold HD at ho
  cases hsrc:n.src with
  |some j=>
   rw [hsrc]at hs ho
   simp only [ki]at hs
   obtain⟨hs1,hs2⟩:=hs
   cases hj:L[j]? with
   |none=>rw [hj]at hs1;cases hs1
   |some p=>
    rw [hj]at hs1
    cases hd:p.dst with
    |none=>simp only [hd]at hs1;cases hs1
    |some d=>
     simp only [hd]at hs1
     have hd' :=q8 hs1
     subst hd'
     have hdone:done.getD j false=true:=by
      unfold ud at hs2
      obtain⟨e,he0,hb⟩:=vu.1 hs2
      have he:e∈o.after:=by simpa using he0
      simp only [ki]at hb
      have:=hwait e he hb.2
      rwa [q8 hb.1]at this
     have hm:=ho σ
     cases hf:ts[j]? with
     |none=>rw [hf]at hm;simp at hm
     |some f=>
      rw [hf]at hm
      have e:f.at σ=n.ty σ:=by simpa using hm
      rw [←e]
      exact h.new j p n.slot f hj hdone hd hf
  |none=>
   rw [hsrc]at hs ho
   refine h.old _ _ (ho σ) fun j p hj hdone hd=>?_
   have:=kV.1 hs p (pM hj)
   simp only [hd,Nat.beq_refl,vn,vp]at this
   unfold ud at this
   obtain⟨e,he0,hb⟩:=vu.1 this
   have he:e∈p.after:=by simpa using he0
   simp only [ki]at hb
   have h3:=h.down j p hj hdone e he hb.2
   rw [q8 hb.1]at h3
   rw [h3]at hun'
   cases hun'
 clear h1 h2
 intro k t hk
 unfold px at hk
 induction needs with
 |nil=>simp [fk,look]at hk
 |cons n needs ih=>
  simp only [vo]at hk
  unfold fk look at hk
  by_cases hb:Nat.beq n.slot k=true
  ·have hb' :Nat.beq (n.at σ).slot k=true:=hb
   rw [hb']at hk
   have:=q8 hb
   subst this
   have h9:some (n.at σ).ty=some t:=by simpa using hk
   have e:n.ty σ=t:=jW h9
   rw [←e]
   exact key n (lr ..)
  ·rw [rs]at hb
   have hb' :Nat.beq (n.at σ).slot k=false:=hb
   rw [hb']at hk
   exact ih (fun m hm=>key m (lA _ hm)) hk
theorem HX.step{a:Act}{w' :World}{S' :SH}{σ σ' :Nat→OI}(h:HX E G L ts Ss es done a w S σ){p0:TS}{C:Nat→Prop}(hi:L[i]? =some o)(hdN: ∀d,o.dst=some d→d<E.N.n)(hs2: ∀d,o.dst=some d→ ∀j p,L[j]? =some p→done.getD j false=true→p.dst=some d→i=j)(hwait: ∀e∈o.after,Region.binds .any e=true→done.getD e.on false=true)(ht:ts[i]? =some p0)(hun:done.getD i true=false)(hdep: ∀k∈p0.1,k=i∨done.getD k false=true)(hext:dQ C w S w' S')(hC: ∀b,C b→E.base≤b∨E.B b)(hsat:eM w' S')(hown:ck E.base E.B w' S' (Ev Ss (w8 es (done.setIfInBounds i true)) σ'))(hσ: ∀k,k≠i→σ' k=σ k)(hv:(p0.at σ').p S' v):
  HX E G L ts Ss es (done.setIfInBounds i true) (a.put o.dst v) w' S' σ' :=by
 have hlt:i<done.size:=by rw [h.dsz];exact(md.1 hi).1
 have hset: ∀j,(done.setIfInBounds i true).getD j false=true→j=i∨done.getD j false=true:=fun j hj=>by
  by_cases hij:i=j
  ·exact .inl hij.symm
  ·rw [td false hij]at hj;exact .inr hj
 have hseti:(done.setIfInBounds i true).getD i false=true:=by simp [hlt]
 have hun' :done.getD i false=false:=by simp [hlt]at hun ⊢;exact hun
 have hput: ∀k,(∀d,o.dst=some d→d≠k)→(a.put o.dst v).tmps.getD k undef=a.tmps.getD k undef:=fun k hk=>by
  cases hd:o.dst with
  |none=>rfl
  |some d=>
   have hda:d<a.tmps.size:=by rw [h.size];exact hdN d hd
   rw [lw hda,cM (hk d hd)]
 refine⟨h.ext.step hext hC,hsat,hown,?_,?_,by simp [h.dsz],fun j p hj hdone e he hb=>?_,fun k u hk hno=>?_,fun j p d' u hj hdone hd' hu=>?_,fun j u hj hu k hk=>?_⟩
 ·cases o.dst with
  |none=>exact h.size
  |some d=>simp [Act.put,h.size]
 ·cases o.dst with
  |none=>exact h.defers
  |some d=>exact h.defers
 ·rcases hset j hdone with rfl|hj'
  ·rw [hi]at hj
   have:o=p:=by simpa using hj
   subst this
   exact oC (hwait e he hb)
  ·exact oC (h.down j p hj hj' e he hb)
 ·rw [hput k fun d hd e=>hno i o hi hseti (by rw [hd,e])]
  exact u.mono hext.keep (h.old k u hk fun j p hj hdone=>hno j p hj (oC hdone))
 ·by_cases hij:j=i
  ·subst hij
   rw [hi]at hj
   have:o=p:=by simpa using hj
   subst this
   have hda:d' <a.tmps.size:=by rw [h.size];exact hdN d' hd'
   rw [hd',lw hda,cU rfl]
   rw [ht]at hu
   have:p0=u:=by simpa using hu
   subst this
   exact hv
  ·have hj' :=(hset j hdone).resolve_left hij
   rw [hput d' fun d hd e=>by subst e;exact hij (hs2 d hd j p hj hj' hd').symm]
   have e1:u.at σ' =u.at σ:=congrArg u.2 (List.map_congr_left fun k hk=>hσ k fun e=>by
     subst e
     rw [h.deps j u hj' hu k hk]at hun';cases hun')
   rw [e1]
   exact Ty.mono _ hext.keep (h.new j p d' u hj hj' hd' hu)
 ·rcases hset j hj with rfl|hj'
  ·rw [ht]at hu
   have:p0=u:=by simpa using hu
   subst this
   rcases hdep k hk with rfl|h'
   ·exact hseti
   ·exact oC h'
  ·exact oC (h.deps j u hj' hu k hk)
end
variable{Q:Exit→Act→World→Prop}{q:Rp β}
theorem zO{l t:List Oper}(hsl:pT E.N.n [] l=true)(hlen:ts.length=l.length)(hesl:es.length=l.length)(hd:DT E G (l++t) ts Ss es 0 l es)(ht:rb (l++t) l.length t.length=true)(hQ: ∀a w S σ,St E (Ev Ss (u0 es) σ) (Ao l (F8 ts σ) G) a w S→wpListIn (fw E.r) 0 E.P (l++t).toArray Q t a w):
  ∀(fuel:Nat) (done:Array Bool) (a:Act) (w:World) (S:SH) (σ:Nat→OI),gk done=fuel→(∀j,l.length≤j→done.getD j false=false)→HX E G (l++t) ts Ss es done a w S σ→wpAnyIn (fw E.r) 0 E.P .any (l++t).toArray Q fuel done a w:=by
 have hL1: ∀i o,i<l.length→(l++t)[i]? =some o→l[i]? =some o:=fun i o hi h=>by rwa [wM hi]at h
 have hL2: ∀i o,l[i]? =some o→(l++t)[i]? =some o:=fun i o h=>by rw [wM (md.1 h).1];exact h
 have htail: ∀m o,l.length≤m→(l++t)[m]? =some o→pq (l++t) m=true∧dh m o=true:=fun m o hm ho=>by
  have hml:m<(l++t).length:=(md.1 ho).1
  rw [kW]at hml
  unfold rb at ht
  have:=kV.1 ht (m-l.length) (by simp;omega)
  rw [show l.length+(m-l.length)=m from by omega,ho]at this
  simp only [ki]at this
  exact⟨this.1,this.2.1⟩
 have hget:=fun i o (hi:l[i]? =some o)=>DT.get l es 0 hd i o hi
 have hedge: ∀i o,(l++t)[i]? =some o→dh i o=true:=fun i o hi=>by
  rcases jV i l.length with h|h
  ·obtain⟨_,_,_,_,_,_,_,h,_⟩:=hget i o (hL1 i o h hi)
   simpa using h
  ·exact(htail i o h hi).2
 obtain⟨hs1,hs2⟩:=ui l [] hsl
 have fin: ∀fuel done a w S σ,gk done=fuel→(∀j,l.length≤j→done.getD j false=false)→HX E G (l++t) ts Ss es done a w S σ→(∀i,i<l.length→done.getD i false=true)→wpAnyIn (fw E.r) 0 E.P .any (l++t).toArray Q fuel done a w:=by
  intro fuel done a w S σ hu hfree h hall
  have hdn:w8 es done=u0 es:=by
   unfold w8 u0
   refine List.filter_congr fun k hk=>?_
   rw [hall k (by rw [←hesl];exact xb.1 hk),Bool.and_true]
  have hown:=h.own
  rw [hdn]at hown
  refine rx (n:=l.length) (fun m o hm ho=>(htail m o hm ho).1) hedge t l.length done fuel a w (fy _) (by simp) h.dsz (fun j hj=>⟨fun hjd=>?_,fun hlt=>hall j hlt⟩) hu
   (hQ a w S σ ⟨h.ext,h.sat,hown,h.size,h.defers,fun j u hj=>?_⟩)
  ·rcases jV j l.length with h' |h'
   ·exact h'
   ·rw [hfree j h']at hjd;cases hjd
  ·rcases xK l (F8 ts σ) j u (by unfold F8;rw [List.length_map];exact hlen) hj with⟨i,o,h1,h2,h3⟩|⟨h1,h2⟩
   ·unfold F8 at h3
    rw [Dc]at h3
    cases hf:ts[i]? with
    |none=>rw [hf]at h3;simp at h3
    |some f=>
     rw [hf]at h3
     have e:f.at σ=u:=by simpa using h3
     rw [←e]
     exact h.new i o j f (hL2 i o h1) (hall i (md.1 h1).1) h2 hf
   ·refine h.old j u h1 fun i o ho hdn=>?_
    rcases jV i l.length with h' |h'
    ·exact h2 o (pM (hL1 i o h' ho))
    ·rw [hfree i h']at hdn;cases hdn
 have lower: ∀done a w S σ i,(∀j,l.length≤j→done.getD j false=false)→HX E G (l++t) ts Ss es done a w S σ→i∈Region.ready .any (l++t).toArray done→l.length≤i→ ∀j,j<l.length→done.getD j false=true:=by
  intro done a w S σ i hfree h hi hge j hj
  obtain⟨hun,p,hp,hwait⟩:=rr.1 hi
  have hp' :(l++t)[i]? =some p:=by simpa using hp
  have hcov:=(htail i p hge hp').1
  unfold pq at hcov
  have hre:=kV.1 hcov j (by simp;omega)
  exact dM h.down _ i j (fun q hq e he hb=>by
   have:q=p:=by rw [hp']at hq;simpa using hq.symm
   subst this
   exact hwait e he hb) hre
 intro fuel
 induction fuel with
 |zero=>
  intro done a w S σ hu hfree h
  exact fin 0 done a w S σ hu hfree h fun i hi=>nk hu (by rw [h.dsz,kW];omega)
 |succ fuel ih=>
  intro done a w S σ hu hfree h
  by_cases hall: ∀i,i<l.length→done.getD i false=true
  ·exact fin _ done a w S σ hu hfree h hall
  have hready0: ∀m i,i<m→i<l.length→Region.ready .any (l++t).toArray done=[]→done.getD i false=true:=by
   intro m
   induction m with
   |zero=>intro i h;omega
   |succ m ihm=>
    intro i him hil hr
    have his:i<done.size:=by rw [h.dsz,kW];omega
    by_cases hdn:done.getD i true=true
    ·rw [←jy his];exact hdn
    ·exfalso
     obtain⟨o,ho⟩: ∃o,(l++t)[i]? =some o:=⟨l[i],hL2 i _ (uT hil)⟩
     have hmem:i∈Region.ready .any (l++t).toArray done:=by
      rw [rr]
      refine⟨by simpa using hdn,o,by simpa using ho,fun e he hb=>?_⟩
      have:=hedge i o ho
      unfold dh at this
      have:=kV.1 this e (by simpa using he)
      simp only [hb,vn,vp,oa]at this
      exact ihm e.on (by omega) (by omega) hr
     rw [hr]at hmem;cases hmem
  refine⟨fun hr=>absurd (fun i hi=>hready0 (i+1) i (by omega) hi hr) hall,fun i hi=>?_⟩
  have hil:i<l.length:=by
   rcases jV i l.length with h' |h'
   ·exact h'
   ·exact absurd (lower done a w S σ i hfree h hi h') hall
  obtain⟨hun,o,ho,hwait⟩:=rr.1 hi
  have ho' :(l++t)[i]? =some o:=by simpa using ho
  have hol:=hL1 i o hil ho'
  obtain⟨e,he,needs,u,h1,h2,h3,_,h4,h5⟩:=hget i o hol
  rw [pL]at h1 h3 h4
  have hF:=h.need ho' hun hwait h2 h3
  have his:i<done.size:=by rw [h.dsz,kW];omega
  have hun' :done.getD i false=false:=by rw [←jy his];exact hun
  have hu' :gk (done.setIfInBounds i true)=fuel:=by have:=kZ hun;omega
  have huq: ∀d,o.dst=some d→ ∀j p,(l++t)[j]? =some p→done.getD j false=true→p.dst=some d→i=j:=fun d hdd j p hj hjd hpd=>by
   rcases jV j l.length with h' |h'
   ·exact hs2 i j o p d hol (hL1 j p h' hj) hdd hpd
   ·rw [hfree j h']at hjd;cases hjd
  have hfree' : ∀j,l.length≤j→(done.setIfInBounds i true).getD j false=false:=fun j hj=>by
   rw [td false (by omega)];exact hfree j hj
  have hbl:E.base≤w.heap.size:=h.ext.size
  have hwaits: ∀q,(l++t)[i]? =some q→ ∀e∈q.after,Region.binds .any e=true→done.getD e.on false=true:=fun q hq e he hb=>by
   have:q=o:=by rw [ho']at hq;simpa using hq.symm
   subst this
   exact hwait e he hb
  have hdpp: ∀k∈u.1,k=i∨done.getD k false=true:=fun k hk=>by
   have:=kV.1 h4 k hk
   simp only [ki,yk]at this
   rcases this.2 with hb|hb
   ·exact .inl (q8 hb)
   ·exact .inr (dM h.down _ i k hwaits hb)
  have hdNN: ∀d,o.dst=some d→d<E.N.n:=fun d hd=>(hs1 o (pM hol) d hd).1
  unfold wpOpIn
  rw [ho]
  show if _ then _ else _
  -- just these effects stand
  have hpos:L9 (l++t) es i (w8 es done)=false:=by
   rw [Bool.eq_false_iff]
   intro hno
   unfold L9 at hno
   rw [yk]at hno
   rcases hno with hc|hc
   ·have:=(sy.1 (Ey.1 hc)).2
    rw [this]at hun';cases hun'
   ·obtain⟨k,hk1,hk2⟩:=vu.1 hc
    have hke:es[k]? =some true:=by
     unfold u0 at hk1
     rw [List.mem_filter,xb]at hk1
     have h7:=hk1.2
     rw [uT hk1.1]at h7 ⊢
     simpa using h7
    by_cases hin:(w8 es done).contains k=true
    ·rw [cU hin,yk]at hk2
     have hkd:=(sy.1 (Ey.1 hin)).2
     rcases hk2 with hb|hb
     ·have:=dM h.down _ k i (fun q hq e he hb=>h.down k q hq hkd e he hb) hb
      rw [this]at hun';cases hun'
     ·obtain⟨j,hj1,hj2⟩:=vu.1 hb
      rw [ki,Bool.not_eq_true']at hj2
      have hje:es[j]? =some true:=by
       unfold u0 at hj1
       rw [List.mem_filter,xb]at hj1
       have h7:=hj1.2
       rw [uT hj1.1]at h7 ⊢
       simpa using h7
      have hjd:=dM h.down _ k j (fun q hq e he hb=>h.down k q hq hkd e he hb) hj2.2
      have:=Ey.2 (sy.2 ⟨hje,hjd⟩)
      rw [hj2.1]at this;cases this
    ·rw [cM hin]at hk2
     have hkd:=dM h.down _ i k hwaits hk2
     exact hin (Ey.2 (sy.2 ⟨hke,hkd⟩))
  have hwin: ∀aas:List (List Nat),Dl (l++t) es i aas=true→w8 es done∈aas:=by
   intro aas hw
   unfold Dl at hw
   have:=kV.1 hw _ (FM es done)
   rw [hpos,vp]at this
   obtain⟨b,hb1,hb2⟩:=vu.1 this
   rw [←B9 hb2];exact hb1
  cases e with
  |false=>
   simp only at h5
   obtain⟨hdS,aas,hw,h5⟩:=h5
   rw [pL]at hw
   obtain⟨d,hdd⟩:=Option.isSome_iff_exists.1 hdS
   have h6:=h5.mem _ (hwin aas hw) σ a w S h.sat h.own hF
   have hdq:=D6 (done:=done) he
   by_cases hw:Region.wanted o (yielded (l++t).toArray a.tmps)=true
   ·rw [cU hw]at h6 ⊢
    refine fZ (fun a' w' ⟨v,S',ha,hx,hs,hv⟩=>?_) h6
    subst ha
    exact ih _ _ _ S' _ hu' hfree' (h.step ho' hdNN huq hwait h1 hun hdpp hx (fun _ hb=>hb.elim) hs (by rw [hdq];exact h.own.ext0 hx) (fun _ _=>rfl) hv)
   ·rw [cM hw]at h6 ⊢
    exact⟨fun _ _=>trivial,ih _ _ _ S _ hu' hfree' (h.step ho' hdNN huq hwait h1 hun hdpp (dE kq _ _) (fun _ hb=>hb.elim) h.sat (by rw [hdq];exact h.own) (fun _ _=>rfl) h6)⟩
  |true=>
   simp only [pL]at h5
   obtain⟨aas,hw,hins,h5⟩:=h5
   obtain⟨p,hp1,hp2⟩:=pK.1 (hwin _ hw)
   have hp3:=B9 (kV.1 hins p hp1)
   have h6:=h5.mem p hp1 σ a w S h.sat (by rw [hp2];exact h.own) hF hbl
   have hdq:w8 es (done.setIfInBounds i true)=p.2:=by rw [Ht he his,←hp2,hp3]
   by_cases hw:Region.wanted o (yielded (l++t).toArray a.tmps)=true
   ·rw [cU hw]at h6 ⊢
    refine fZ (fun a' w' ⟨v,S',x,ha,hx,hs,hown,hv⟩=>?_) h6
    subst ha
    exact ih _ _ _ S' _ hu' hfree' (h.step ho' hdNN huq hwait h1 hun hdpp hx (fun b ⟨f,hf,hb⟩=>(ck.mem h.own f (by rw [←hp2];exact hf)).2 b hb) hs (by rw [hdq];exact hown) (fun k hk=>vD σ x hk) hv)
   ·rw [cM hw]at h6 ⊢
    obtain⟨x,hown,hv⟩:=h6
    exact⟨fun _ _=>trivial,ih _ _ _ S _ hu' hfree' (h.step ho' hdNN huq hwait h1 hun hdpp (dE kq _ _) (fun _ hb=>hb.elim) h.sat (by rw [hdq];exact hown) (fun k hk=>vD σ x hk) hv)⟩
variable{O:List OE}
theorem wF{id:Nat}(m:Nat)(ts:List TS)(es:List Bool)(Ss:LV)(hO: ∀σ,Ev Ss [] σ=O)(hm:E.P.follows .mixedOrders=true)(hsl:pT E.N.n [] (L.take m)=true)(hlen:ts.length=(L.take m).length)(hesl:es.length=(L.take m).length)(ht:rb L (L.take m).length (L.drop m).length=true)(hd:DT E G L ts Ss es 0 (L.take m) es)(k: ∀σ:Nat→OI,RG E L.toArray Q (L.drop m) (Ev Ss (u0 es) σ) (Ao (L.take m) (F8 ts σ) G)):CG E Q (.region id L.toArray true) O G:=fun a w S st=>by
 have hL:L=L.take m++L.drop m:=(pC m L).symm
 generalize L.take m=l at hL hsl hlen hesl ht hd k
 generalize L.drop m=t at hL ht k
 subst hL
 refine wpIn_region_any hm ?_
 obtain⟨he,hs⟩:=qD (w:=w) st.sat
 have hdn0:w8 es (Array.replicate (l++t).toArray.size false)=[]:=by
  unfold w8
  refine List.filter_eq_nil_iff.2 fun k hk=>?_
  simp [rt]
  intro _
  split<;>simp
 refine zO hsl hlen hesl hd ht (fun a w S σ st=>k σ a w S st) _ _ _ _ S (fun _=>kp) ?_ (fun j _=>?_)
  ⟨st.ext.step0 he,hs,by rw [hdn0,hO];exact st.own.ext0 he,st.facts.size,st.facts.defers,by simp,fun j o hj hdone=>?_,fun k t hk _=>st.facts.at_ k t hk,fun j o d t hj hdone=>?_,fun j p hdone=>?_⟩
 ·unfold gk;rw [Cs,Cq];simp
 ·simp [rt];split<;>rfl
 ·simp [rt]at hdone
  split at hdone<;>simp at hdone
 ·simp [rt]at hdone
  split at hdone<;>simp at hdone
 ·simp [rt]at hdone
  split at hdone<;>simp at hdone

variable{base:Nat}{y:Code}
theorem ck.perm{B:Nat→Prop}{O' :List OE}(h:O.Perm O'):ck base B w S O→ck base B w S O' :=by
 induction h with
 |nil=>exact id
 |cons x p ih=>
  rintro⟨h1,h2,h3⟩
  exact⟨h1,fun f hf=>h2 f (p.mem_iff.2 hf),ih h3⟩
 |swap x y l=>
  rintro⟨h1,h2,h3,h4,h5⟩
  refine⟨h3,fun f hf k hk hfk=>?_,h1,fun f hf=>h2 f (lA _ hf),h5⟩
  rcases lM.1 hf with rfl|hf
  ·exact h2 x (lr ..) k hfk hk
  ·exact h4 f hf k hk hfk
 |trans _ _ ih1 ih2=>exact fun k=>ih2 (ih1 k)
def nw(O:List OE):List Nat→List OE
 |[]=>[]
 |i::l=>match O[i]? with
  |some e=>e::nw O l
  |none=>nw O l
theorem sv(O:List OE): ∀a b:List Nat,nw O (a++b)=nw O a++nw O b
 |[],_=>rfl
 |i::a,b=>by
  simp only [List.cons_append,nw]
  split<;>simp [sv O a b]
theorem BK{a b:List Nat}(h:a.Perm b):(nw O a).Perm (nw O b):=by
 induction h with
 |nil=>exact .nil
 |cons x p ih=>
  simp only [nw]
  split
  ·exact .cons _ ih
  ·exact ih
 |swap x y l=>
  simp only [nw]
  cases hx:O[x]? <;>cases hy:O[y]? <;>simp<;>exact .swap ..
 |trans _ _ ih1 ih2=>exact ih1.trans ih2
theorem Am(O:List OE):nw O (List.range O.length)=O:=by
 have key: ∀n,n≤O.length→nw O (List.range n)=O.take n:=by
  intro n
  induction n with
  |zero=>intro _;rfl
  |succ n ih=>
   intro h
   rw [List.range_succ,sv,ih (by omega)]
   simp only [nw]
   rw [uT (by omega),List.take_succ_eq_append_getElem (by omega)]
 rw [key _ (fy _),xd]
theorem ck.pick{B:Nat→Prop}(l:List Nat)(hl:l.isPerm (List.range O.length)=true)(h:ck base B w S O):ck base B w S (nw O l):=
 h.perm (by
  have:=BK (O:=O) (List.isPerm_iff.1 hl)
  rw [Am]at this
  exact this.symm)

variable{U:TypeId}{after:Array Edge}{cap:Nat}{dst:Option Tmp}{g:Option (Nat×Bool)}{pos:String}{xs:List α}
section
theorem qM{mm:Bool}{l:Option Nat}{o:Nat}{y:α}{j:Int}{p:Operand}(hm:gQ mm r U l cap xs∈O)(hy:eG xs j=some y)(hp:aG E.N G p (tV (iY l o))):
  bH E O G ⟨dst,.nilCheck p,ty,pos,after,g⟩ (tV (iY l o)):=
 .of_pure fun a w S _ ho hF=>by
  have h1:a.eval p=iY l o:=hp S a hF
  obtain⟨_,hy'⟩:=gN hy
  obtain⟨b,cur,rfl,_⟩:=mI (ho.mem _ hm).1 hy'
  exact⟨iY (some b) o,by simp [execOp,h1,iY,aF],rfl⟩
end
open Go.ChangeShapes Go.WideShapes Go.ChangeAt Go.RowKit

variable{H:Type}{P:Program}{T:TypeId}{W:World}{c:Nat}{cells:List Value}{enc:TypeId×Value→H}{gs:Nat}{ps:List MemPlace}{r' :Rp α}{rest:List Oper}{z:List Value}
section
def wY(W:World):SH:=fun b=>W.heap[b]?
theorem Iz(W:World)(hg: ∀p∈glob,∃c T fr,W.heap[p.1]? =some (.cells c T fr)∧c.toList.take p.2.length=p.2)(ht: ∀w' :World,(∀(b:Nat) (o:Obj),W.heap[b]? =some o→ ∃o',w'.heap[b]? =some o' ∧wT o o')→Dt w'):eM W (wY W):=⟨fun _ o h=>⟨o,h,qf o⟩,hg,ht⟩
def q7(enc:TypeId×Value→H)(P:Program)(W:World){α:Type}(t:TypeId)(r:Rp α):Prop:=
 P.cellsOf t=r.sz∧ ∀fuel cs x,DataW.trod enc P W 0 (fun _=>true) true fuel t cs=some x→ ∃y,r.rc (wY W) cs y
theorem EH(h:P.underlying t=some .bool)(hc:P.cellsOf t=1):q7 enc P W t rB:=⟨hc,fun fuel cs x hx=>by
 cases fuel with
 |zero=>simp [DataW.trod]at hx
 |succ n=>
  unfold DataW.trod at hx
  rw [h]at hx
  split at hx
  all_goals try (injections;done)
  ·exact⟨_,rfl⟩⟩
theorem ou{α β:Type}{f:α→Option β}: ∀{l:List α} {r:List β},l.mapM f=some r→r.length=l.length∧ ∀(i:Nat) (x:α),l[i]? =some x→ ∃y,r[i]? =some y∧f x=some y
 |[],r,h=>by
  simp at h
  subst h
  exact⟨rfl,fun i x hx=>by simp at hx⟩
 |a::l,r,h=>by
  rw [List.mapM_cons]at h
  cases hf:f a with
  |none=>rw [hf]at h;simp at h
  |some b=>
   rw [hf]at h
   cases hm:l.mapM f with
   |none=>rw [hm]at h;simp at h
   |some r' =>
    rw [hm]at h
    simp at h
    subst h
    obtain⟨h1,h2⟩:=ou hm
    refine⟨by simp [h1],fun i x hx=>?_⟩
    cases i with
    |zero=>simp at hx;subst hx;exact⟨b,rfl,hf⟩
    |succ i=>exact h2 i x (by simpa using hx)
theorem tU{a:Addr}(h:W.cell? a=some v):a.spot=none∧ ∃c E fr,W.heap[a.block]? =some (.cells c E fr)∧c[a.off]? =some v:=by
 unfold World.cell? at h
 cases ho:W.heap[a.block]? with
 |none=>rw [ho]at h;cases h
 |some o=>
  rw [ho]at h
  cases o with
  |cells c E fr=>
   simp only at h
   by_cases hs:a.spot.isSome=true
   ·rw [cU hs]at h;cases h
   ·rw [cM hs]at h
    exact⟨by cases hq:a.spot with
     |none=>rfl
     |some s=>rw [hq]at hs;simp at hs,c,E,fr,rfl,h⟩
  |_=>simp at h
theorem ya(a:Addr):a.add 0=a:=by unfold Addr.add;rfl
theorem Ce{b off:Nat}{cs:List Value}(h:W.cells? 0 ⟨b,off,none⟩ n=some cs)(hn:0<n): ∃c E fr,W.heap[b]? =some (.cells c E fr)∧cs=(c.toList.drop off).take n:=by
 unfold World.cells? at h
 rw [cU (im _)]at h
 obtain⟨h1,h2⟩:=ou h
 obtain⟨v,_,hv⟩:=h2 0 0 (by simp [hn])
 obtain⟨_,c,E,fr,h3,h4⟩:=tU hv
 refine⟨c,E,fr,by simpa [Addr.add] using h3,?_⟩
 apply List.ext_getElem?
 intro i
 have hl:cs.length=n:=by simpa using h1
 by_cases hi:i<n
 ·obtain⟨v,h5,h6⟩:=h2 i i (by simp [hi])
  obtain⟨_,c',E',fr',h7,h8⟩:=tU h6
  rw [eL]at h7 h8
  have h7' :W.heap[b]? =some (.cells c' E' fr'):=h7
  have h3' :W.heap[b]? =some (.cells c E fr):=by simpa [Addr.add] using h3
  rw [h3']at h7'
  injection h7' with h7'
  injection h7' with e1
  subst e1
  rw [h5,wL hi,uR]
  simpa using h8.symm
 ·rw [Dh (by omega),Dh (by simp;omega)]
theorem Dn{q:Rp α}{len:Nat}{a:Addr}{x:DataW H×List MemPlace}(h0' :0<q.sz)(hq:q7 enc P W e q)(hx:(let elemAt (i:Nat):Option (DataW H×List MemPlace):=(W.cells? 0 (a.add (i*P.cellsOf e)) (P.cellsOf e)).bind (DataW.trod enc P W 0 (fun _=>true) true n e)
   if 0≤a.block∧len≤cap∧cap≤maxLen then
    ((List.range len).mapM elemAt).bind fun elems=>
     (if(fun _=>true) a.block then(List.range (cap-len)).mapM fun j=>elemAt (len+j)else some []).map fun rest=>
      (DataW.slice (elems.map (·.1)) (rest.map (·.1)),MemPlace.row a ((elems.length+rest.length)*P.cellsOf e)++(elems++rest).flatMap (·.2))
   else none)=some x): ∃y,(dz q).rc (wY W) [.slice (some a) len cap] y:=by
 simp only at hx
 split at hx
 ·rename_i hcond
  obtain⟨_,hle,hmax⟩:=hcond
  cases hm:(List.range len).mapM (fun i=>(W.cells? 0 (a.add (i*P.cellsOf e)) (P.cellsOf e)).bind (DataW.trod enc P W 0 (fun _=>true) true n e))with
  |none=>rw [hm]at hx;simp at hx
  |some elems=>
   obtain⟨hm1,hm2⟩:=ou hm
   rw [hq.1]at hm2
   by_cases hl0:len=0
   ·subst hl0;exact⟨[],some a,cap,rfl,im _,hmax,.inl rfl⟩
   have hsp0:a.spot=none:=by
    obtain⟨z,_,hz⟩:=hm2 0 0 (by rw [List.getElem?_range (by omega)])
    rw [Nat.zero_mul,ya]at hz
    cases hcs:W.cells? 0 a q.sz with
    |none=>rw [hcs]at hz;simp at hz
    |some cs1=>
     unfold World.cells? at hcs
     rw [cU (im _)]at hcs
     obtain⟨_,g2⟩:=ou hcs
     obtain⟨v,_,hv⟩:=g2 0 0 (by simp [h0'])
     rw [ya]at hv
     exact(tU hv).1
   have hcell: ∀i,i<len→ ∃c E fr,a.spot=none∧W.heap[a.block]? =some (.cells c E fr)∧ ∃y,q.rc (wY W) ((c.toList.drop (a.off+i*q.sz)).take q.sz) y:=by
    intro i hi
    obtain⟨z,_,hz⟩:=hm2 i i (by simp [hi])
    cases hcs:W.cells? 0 (a.add (i*q.sz)) q.sz with
    |none=>rw [hcs]at hz;simp at hz
    |some cs1=>
     rw [hcs]at hz
     have hsp:a.spot=none:=hsp0
     obtain⟨ab,ao,az⟩:=a
     simp only at hsp
     subst hsp
     rw [eL]at hcs
     obtain⟨c,E,fr,g1,g2⟩:=Ce hcs h0'
     obtain⟨y,hy⟩:=hq.2 n cs1 z hz
     exact⟨c,E,fr,rfl,g1,y,by rw [←g2];exact hy⟩
   obtain⟨c,E,fr,hsp,hb,_⟩:=hcell 0 (by omega)
   have key: ∀m,m≤len→ ∃ys:List α,ys.length=m∧oj q (wY W) ((c.toList.drop a.off).take (m*q.sz)) ys:=by
    intro m
    induction m with
    |zero=>intro _;exact⟨[],rfl,by simp [oj]⟩
    |succ m ih=>
     intro hm'
     obtain⟨ys,hy1,hy2⟩:=ih (by omega)
     obtain⟨c',E',fr',_,hb',y,hy⟩:=hcell m (by omega)
     rw [hb]at hb'
     injection hb' with hb'
     injection hb' with e1
     subst e1
     refine⟨ys++[y],by simp [hy1],?_⟩
     have hsplit:(c.toList.drop a.off).take ((m+1)*q.sz)=(c.toList.drop a.off).take (m*q.sz)++(c.toList.drop (a.off+m*q.sz)).take q.sz:=by
      rw [pB,Nat.one_mul,List.take_add,sd]
     rw [hsplit]
     exact oU hy2 (BJ.2 hy)
   obtain⟨ys,hy1,hy2⟩:=key len (fy _)
   obtain⟨ab,ao,az⟩:=a
   simp only at hsp
   subst hsp
   exact⟨ys,some ⟨ab,ao,none⟩,cap,by rw [hy1],by omega,hmax,.inr ⟨ab,ao,c,E,fr,rfl,hb,by rw [hy1];exact hy2⟩⟩
 ·cases hx
theorem k4{q:Rp α}(h:P.underlying t=some (.slice e))(hc:P.cellsOf t=1)(h0:Nat.blt 0 q.sz=true)(hq:q7 enc P W e q):q7 enc P W t (dz q):=⟨hc,fun fuel cs x hx=>by
 have h0' :0<q.sz:=by simpa [oa] using h0
 cases fuel with
 |zero=>simp [DataW.trod]at hx
 |succ n=>
  unfold DataW.trod at hx
  rw [h]at hx
  split at hx
  all_goals try (injections;done)
  ·exact⟨[],none,0,rfl,fy _,im _,.inl rfl⟩
  ·rename_i e' a len cap heq
   injection heq with e1
   injection e1 with e1
   subst e1
   exact Dn h0' hq hx⟩
def HE(enc:TypeId×Value→H)(P:Program)(W:World){α:Type}(off:Nat)(l:List (TypeId×Nat))(r:Rp α):Prop:=
 ∀(fuel:Nat) (cs:List Value),cs.length=off+r.sz→(∀f∈l,∃x,DataW.trod enc P W 0 (fun _=>true) true fuel f.1 ((cs.drop f.2).take (P.cellsOf f.1))=some x)→ ∃y,r.rc (wY W) (cs.drop off) y
theorem lJ{t off:Nat}(h:q7 enc P W t r):HE enc P W off [(t,off)] r:=fun fuel cs hl hx=>by
 obtain⟨x,hx⟩:=hx _ (List.mem_singleton_self _)
 simp only at hx
 rw [h.1,yp (by simp;omega)]at hx
 exact h.2 _ _ _ hx
theorem dd{t off off' :Nat}(h:q7 enc P W t p)(ho:off' =off+p.sz)(hr:HE enc P W off' l q):HE enc P W off ((t,off)::l) (bO p q):=fun fuel cs hl hx=>by
 subst ho
 obtain⟨x,hx1⟩:=hx _ (lr ..)
 simp only at hx1
 rw [h.1]at hx1
 obtain⟨y,hy⟩:=h.2 _ _ _ hx1
 obtain⟨z,hz⟩:=hr fuel cs (by rw [hl];show off+(p.sz+q.sz)=_;omega) fun f hf=>hx f (lA _ hf)
 exact⟨(y,z),_,_,by rw [←sd];exact(pC _ _).symm,hy,hz⟩
theorem i7{f:β→α}(ht:(P.underlying t).map (fun d=>match d with| .struct l=>(true,l.toList.map fun f=>(f.type,f.offset))|_=>(false,[]))=some (true,l))(hc:P.cellsOf t=p.sz)(hf: ∀y,∃x,f x=y)(hl:HE enc P W 0 l p):q7 enc P W t (iG p f):=⟨hc,fun fuel cs x hx=>by
 obtain⟨fs,h1,h2⟩: ∃fs,P.underlying t=some (.struct fs)∧fs.toList.map (fun f=>(f.type,f.offset))=l:=by
  cases hu:P.underlying t with
  |none=>rw [hu]at ht;cases ht
  |some d=>
   rw [hu]at ht
   cases d<;>simp at ht
   exact⟨_,rfl,ht⟩
 cases fuel with
 |zero=>simp [DataW.trod]at hx
 |succ n=>
  unfold DataW.trod at hx
  rw [h1]at hx
  change (if cs.length=P.cellsOf t then(fs.toList.mapM fun f=>DataW.trod enc P W 0 (fun _=>true) true n f.type ((cs.drop f.offset).take (P.cellsOf f.type))).map (fun xs=>(DataW.agg (xs.map (·.1)),xs.flatMap (·.2)))else none)=some x at hx
  split at hx
  ·rename_i hlen
   cases hm:fs.toList.mapM (fun f=>DataW.trod enc P W 0 (fun _=>true) true n f.type ((cs.drop f.offset).take (P.cellsOf f.type)))with
   |none=>rw [hm]at hx;simp at hx
   |some r=>
    obtain⟨_,hm2⟩:=ou hm
    obtain⟨y,hy⟩:=hl n cs (by rw [hlen,hc];omega) (fun g hg=>by
     rw [←h2,pK]at hg
     obtain⟨f0,hf0,rfl⟩:=hg
     obtain⟨i,hi⟩:=List.getElem?_of_mem hf0
     obtain⟨z,_,hz⟩:=hm2 i f0 hi
     exact⟨z,hz⟩)
    obtain⟨x',hx'⟩:=hf y
    refine⟨x',?_⟩
    show p.rc _ cs (f x')
    rw [hx']
    simpa using hy
  ·cases hx⟩
theorem Ae(h:q7 enc P W t r)(hag:r.agg=false){d:DataW H}(hv:DataW.Trod enc P W 0 (fun _=>true) true t v d ps)(hc:v.cells= #[v]): ∃y,(tD r y).p (wY W) v:=by
 obtain⟨fuel,hx⟩:=hv
 rw [hc]at hx
 obtain⟨y,hy⟩:=h.2 _ _ _ hx
 exact⟨y,_,by unfold Rp.val;rw [hag];rfl,hy⟩

theorem D8(ht:P.underlying t=some (.int k))(hv:Value.okWide P W .any base t v):v.cells= #[v]:=by
 cases v<;>first|rfl|(simp [Value.okWide,ht,Cell.okWide,Cell.ok]at hv)
theorem zp{W' :World}{S' :SH}(h:dQ kq W S W' S'):Below W.heap.size W W' :=⟨h.os,h.tape,h.output,h.size,fun k hk=>h.heap k hk (fun h=>h)⟩
theorem ra(hl:laidOutB P=true){W W' :World}(hb:Below W.heap.size W W'){sp:Nat→Bool}: ∀{ts:List TypeId} {vs:List Value} {ds:List (DataW H)} {ps:List MemPlace},(∀t∈ts,P.readableRec t=true∧t<P.types.size)→
  DataW.TrodAll enc P W 0 (fun _=>true) true ts vs ds ps→(∀p∈ps,p.block<W.heap.size)→(∀p∈ps,sp p.block=true)→DataW.TrodAll enc P W' 0 sp true ts vs ds ps
 |[],[],[],_,_,h,_,_=>h
 |t::ts,v::vs,d::ds,_,hr,⟨p,q,h1,h2,e⟩,hlt,hsp=>by
  subst e
  have ht:=hr t (lr ..)
  exact⟨p,q,WideElems.Trod_stays hl ht.1 ht.2 h1 (fun x hx=>hb.same (hlt x (Bh _ hx))) (fun x hx=>hsp x (Bh _ hx)),
   ra hl hb (fun t ht=>hr t (lA _ ht)) h2 (fun x hx=>hlt x (Cp _ hx)) (fun x hx=>hsp x (Cp _ hx)),rfl⟩
theorem Fe{f:Func}{s:ChangeSpec}{apart fresh handsOn again:Bool}{W' :World}{args:Array Value}{ds gs:List (DataW H)}{before:List MemPlace}{tb:TypeId}(hl:laidOutB P=true)(hr: ∀t∈f.params.toList,P.readableRec t=true∧t<P.types.size)(hvs:s.vars=[])(hres:f.resultTypes= #[tb])(htb:P.underlying tb=some .bool)(hW:DataW.Whole enc P f.params.toList s.vars apart W args.toList ds gs before)(hs:s.fn H (ds++gs)={results:=[.lit (.bool true)],args:=ds})(hb:Below W.heap.size W W'):
  s.post enc P f apart fresh handsOn again W args (.bool true) W' :=by
 have hW0:=hW
 have hlt:=hW.lt
 obtain⟨pa,pv,hA,hV,rfl,hz,hn⟩:=hW
 rw [hvs]at hV
 have hpv:pv=[]:=by
  cases gs with
  |nil=>exact hV
  |cons g gs=>exact hV.elim
 subst hpv
 have hlt' : ∀p∈pa,p.block<W.heap.size:=fun p hp=>hlt p (by simpa using hp)
 have hargs: ∀sp:Nat→Bool,(∀p∈pa,sp p.block=true)→DataW.TrodAll enc P W' 0 sp true f.params.toList args.toList ds pa:=fun sp hsp=>ra hl hb hr hA hlt' hsp
 have hresT: ∀(b:Nat) (sp:Nat→Bool) (hd:Bool),DataW.TrodAll enc P W' b sp hd f.resultTypes.toList ((Value.bool true).resultList f.resultTypes.size) [.lit (.bool true)] []:=fun b sp hd=>by
  rw [hres]
  exact⟨[],[],⟨1,by simp [DataW.trod,htb,Value.cells]⟩,rfl,rfl⟩
 have hvT: ∀sp:Nat→Bool,DataW.TrodVars enc P W' sp s.vars (s.fn H (ds++gs)).vars []:=fun sp=>by
  rw [hvs,hs];rfl
 have hargs' : ∀sp:Nat→Bool,(∀p∈pa,sp p.block=true)→DataW.TrodAll enc P W' 0 sp true f.params.toList args.toList (s.fn H (ds++gs)).args pa:=fun sp hsp=>by rw [hs];exact hargs sp hsp
 have hres' : ∀(b:Nat) (sp:Nat→Bool) (hd:Bool),DataW.TrodAll enc P W' b sp hd f.resultTypes.toList ((Value.bool true).resultList f.resultTypes.size) (s.fn H (ds++gs)).results []:=fun b sp hd=>by rw [hs];exact hresT b sp hd
 have hold: ∀p∈pa,(fun b=>decide (b<W.heap.size)) p.block=true:=fun p hp=>by simpa using hlt' p hp
 refine⟨ds,gs,pa++[],[],pa,[],hW0,hres' _ _ _,hargs' _ hold,hvT _,World.keptBut_mono (fun p hp=>⟨hp,?_⟩) (hb.frame _),fun _=>?_⟩
 ·right;simpa using hp
 ·refine⟨?_,_,_,([]++pa)++[],⟨[]++pa,[],trodAll_append (hargs' _ (fun _ _=>rfl)) (hres' _ _ _),hvT _,rfl,?_,?_⟩,?_⟩
  ·intro j t r h1 h2
   rw [hres]at h1 h2
   cases j with
   |zero=>
    simp [Value.resultList]at h1 h2
    subst h1 h2
    simp [Value.okWide,htb,Cell.okWide,Cell.ok]
   |succ j=>simp at h1
  ·intro b off hp
   have hp' :MemPlace.cell b off∈pa:=by simpa using hp
   have:=hlt' _ hp'
   rw [hb.frozen (p:=⟨b,off,none⟩) this]
   exact hz b off (by simpa using hp')
  ·intro ha
   have:=hn ha
   simpa using this
  ·intro p hp _
   simpa using hp
end

variable{agg:Bool}{ok:α→Prop}
section
def ri{α:Type}(r:Rp α)(ok:α→Prop):Rp α where
 sz:=r.sz
 agg:=r.agg
 rc:=fun S cs x=>r.rc S cs x∧ok x
 mono:=fun h k=>⟨r.mono h k.1,k.2⟩
 len:=fun k=>r.len k.1
 one:=fun k=>r.one k.1
 sc:=r.sc
def nY(k:IntKind)(n:Int):Prop:=k.min≤n∧n≤k.max
def LT(s:jn):Prop:=s.length≤maxLen
def F9{α:Type}(ok:α→Prop)(xs:List α):Prop:=xs.length≤maxLen∧ ∀x∈xs,ok x
def JR{α:Type}(_:α):Prop:=True
theorem vE(h:P.underlying t=some (.int k))(hc:P.cellsOf t=1):q7 enc P W t (ri (rI k) (nY k)):=⟨hc,fun fuel cs x hx=>by
 cases fuel with
 |zero=>simp [DataW.trod]at hx
 |succ n=>
  unfold DataW.trod at hx
  rw [h]at hx
  split at hx
  all_goals try (injections;done)
  ·rename_i k1 k2 m heq
   injection heq with e
   injection e with e
   subst e
   split at hx
   ·rename_i h2
    obtain⟨rfl,h3⟩:=h2
    simp only [Lit.wf,ki,decide_eq_true_eq]at h3
    exact⟨m,rfl,h3⟩
   ·cases hx⟩
theorem EG(h:P.underlying t=some .string)(hc:P.cellsOf t=1):q7 enc P W t (ri rS LT):=⟨hc,fun fuel cs x hx=>by
 cases fuel with
 |zero=>simp [DataW.trod]at hx
 |succ n=>
  unfold DataW.trod at hx
  rw [h]at hx
  split at hx
  all_goals try (injections;done)
  ·rename_i s heq
   split at hx
   ·rename_i h2;exact⟨s.data.toList,rfl,(show s.data.toList.length≤maxLen from(show s.size=s.data.toList.length from rfl)▸h2)⟩
   ·cases hx⟩
theorem Do(h:P.underlying t=some .bool)(hc:P.cellsOf t=1):q7 enc P W t (ri rB JR):=
 ⟨hc,fun fuel cs x hx=>by obtain⟨y,hy⟩:=(EH (enc:=enc) (W:=W) h hc).2 fuel cs x hx;exact⟨y,hy,trivial⟩⟩
def zu{α:Type}(r' r:Rp α)(ok:α→Prop):Prop:=r'.sz=r.sz∧r'.agg=r.agg∧ ∀S cs x,r'.rc S cs x→r.rc S cs x∧ok x
theorem fH:zu (ri r ok) r ok:=⟨rfl,rfl,fun _ _ _ h=>h⟩
theorem Cz{α:Type}{r' r:Rp α}{ok:α→Prop}(h:zu r' r ok){S:SH}: ∀{xs:List α} {cs:List Value},oj r' S cs xs→oj r S cs xs∧ ∀x∈xs,ok x
 |[],_,k=>⟨k,fun x hx=>by cases hx⟩
 |x::xs,_,⟨a,b,e,h1,h2⟩=>by
  obtain⟨g1,g2⟩:=h.2.2 _ _ _ h1
  obtain⟨g3,g4⟩:=Cz h h2
  exact⟨⟨a,b,e,g1,g3⟩,fun y hy=>by
   rcases lM.1 hy with rfl|hy
   ·exact g2
   ·exact g4 y hy⟩
theorem oP(h:zu r' r ok):zu (dz r') (dz r) (F9 ok):=⟨rfl,rfl,fun S cs xs ⟨a,cap,e,h1,h2,h3⟩=>by
 rcases h3 with h3|⟨b,off,c,E,fr,e1,e2,e3⟩
 ·exact⟨⟨a,cap,e,h1,h2,.inl h3⟩,by omega,fun x hx=>by rw [h3]at hx;cases hx⟩
 ·rw [h.1]at e3
  obtain⟨g1,g2⟩:=Cz h e3
  exact⟨⟨a,cap,e,h1,h2,.inr ⟨b,off,c,E,fr,e1,e2,g1⟩⟩,by omega,g2⟩⟩
theorem dA{p' :Rp α}{q' :Rp β}{f:α→Prop}{g:β→Prop}(h:zu p' p f)(k:zu q' q g):zu (bO p' q') (bO p q) (fun x=>f x.1∧g x.2):=
 ⟨by show p'.sz+q'.sz=p.sz+q.sz;rw [h.1,k.1],rfl,fun S cs x ⟨a,b,e,h1,h2⟩=>⟨⟨a,b,e,(h.2.2 _ _ _ h1).1,(k.2.2 _ _ _ h2).1⟩,(h.2.2 _ _ _ h1).2,(k.2.2 _ _ _ h2).2⟩⟩
theorem nm{p' :Rp α}{f:β→α}(h:zu p' p ok):zu (iG p' f) (iG p f) (fun x=>ok (f x)):=
 ⟨h.1,rfl,fun S cs x k=>h.2.2 _ _ _ k⟩
theorem Hz(h:q7 enc P W t r')(hr:zu r' r ok)(hag:r.agg=false){d:DataW H}(hv:DataW.Trod enc P W 0 (fun _=>true) true t v d ps)(hc:v.cells= #[v]): ∃y,(tD r y).p (wY W) v∧ok y:=by
 obtain⟨y,cs,e,hy⟩:=Ae h (by rw [hr.2.1];exact hag) hv hc
 obtain⟨g1,g2⟩:=hr.2.2 _ _ _ hy
 exact⟨y,⟨cs,by rw [e];unfold Rp.val;rw [hr.2.1],g1⟩,g2⟩
theorem HA(h:q7 enc P W t r')(hr:zu r' r ok)(hag:r.agg=true){d:DataW H}(hv:DataW.Trod enc P W 0 (fun _=>true) true t v d ps)(hc:v= .agg v.cells): ∃y,(tD r y).p (wY W) v∧ok y:=by
 obtain⟨fuel,hx⟩:=hv
 obtain⟨y,hy⟩:=h.2 _ _ _ hx
 obtain⟨g1,g2⟩:=hr.2.2 _ _ _ hy
 exact⟨y,⟨_,by unfold Rp.val;rw [hag,cU rfl];exact hc,g1⟩,g2⟩
theorem zn{l:Array Field}(ht:P.underlying t=some (.struct l))(hv:Value.okWide P W .any base t v):v= .agg v.cells:=by
 unfold Value.okWide at hv
 rw [ht]at hv
 obtain⟨cs,e,_⟩:=hv
 rw [e]
 rfl
end

variable{Ds:List (DataW Unit)}
section
variable{held:Bool}
def HV(P:Program)(W:World)(held:Bool)(t:TypeId)(D:DataW Unit)(cells:List Value):Prop:=
 P.cellsOf t=cells.length∧ ∀fuel cs x,DataW.trod (fun _=>()) P W 0 (fun _=>true) held fuel t cs=some x→x.1=D→cs=cells
theorem yz{n:Int}(h:P.underlying t=some (.int k))(hc:P.cellsOf t=1):HV P W held t (.lit (.int k n)) [.int k n]:=⟨hc,fun fuel cs x hx hD=>by
 obtain⟨m,h1,h2,_⟩:=DataW.trod_int h hx
 subst h2
 simp only [DataW.lit.injEq,Lit.int.injEq,true_and]at hD
 rw [h1,hD]⟩
theorem dj{s:List UInt8}(h:P.underlying t=some .string)(hc:P.cellsOf t=1):HV P W held t (.lit (.string s)) [.string ⟨s.toArray⟩]:=⟨hc,fun fuel cs x hx hD=>by
 obtain⟨m,h1,h2,_⟩:=DataW.trod_string h hx
 subst h2
 simp only [DataW.lit.injEq,Lit.string.injEq]at hD
 subst hD
 rw [h1]⟩
def FC(P:Program)(W:World)(held:Bool)(off:Nat)(l:List (TypeId×Nat))(Ds:List (DataW Unit))(cells:List Value):Prop:=
 ∀(n:Nat) (cs:List Value),cs.length=off+cells.length→(∀(i:Nat) f,l[i]? =some f→ ∃x,DataW.trod (fun _=>()) P W 0 (fun _=>true) held n f.1 ((cs.drop f.2).take (P.cellsOf f.1))=some x∧Ds[i]? =some x.1)→cs.drop off=cells
theorem wl{off:Nat}:FC P W held off [] [] []:=fun n cs hl _=>Di (by simp at hl;omega)
theorem cK{off off' :Nat}{D:DataW Unit}{c:List Value}(h:HV P W held t D c)(ho:off' =off+c.length)(k:FC P W held off' l Ds cells):FC P W held off ((t,off)::l) (D::Ds) (c++cells):=fun n cs hl hx=>by
 obtain⟨x,h1,h2⟩:=hx 0 (t,off) rfl
 simp only [List.getElem?_cons_zero,zJ]at h2
 have h3:=h.2 n _ x h1 h2.symm
 have h4:=k n cs (by rw [hl,ho,kW];omega) fun i f hf=>by simpa using hx (i+1) f (by simpa using hf)
 have e:cs.drop off=(cs.drop off).take (P.cellsOf t)++cs.drop off' :=by
  rw [ho,←h.1,←sd,pC]
 rw [e,h4]
 exact congrArg (· ++cells) h3
theorem ry(ht:(P.underlying t).map (fun d=>match d with| .struct l=>(true,l.toList.map fun f=>(f.type,f.offset))|_=>(false,[]))=some (true,l))(hc:P.cellsOf t=cells.length)(hf:FC P W held 0 l Ds cells):HV P W held t (.agg Ds) cells:=⟨hc,fun fuel cs x hx hD=>by
 obtain⟨fs,h1,h2⟩: ∃fs,P.underlying t=some (.struct fs)∧fs.toList.map (fun f=>(f.type,f.offset))=l:=by
  cases hu:P.underlying t with
  |none=>rw [hu]at ht;cases ht
  |some d=>
   rw [hu]at ht
   cases d<;>simp at ht
   exact⟨_,rfl,ht⟩
 obtain⟨xs,n,rfl,h3,h4,h5,h6⟩:=DataW.trod_struct h1 hx
 rw [h3]at hD
 simp only [DataW.agg.injEq]at hD
 have:=hf n cs (by rw [h4,hc];omega) fun i f hi=>by
  rw [←h2,Dc]at hi
  obtain⟨f0,hf0,rfl⟩:=sf.1 hi
  have h7:=h6 i f0 (by simpa using hf0)
  have hlt:i<xs.length:=by
   have:=(md.1 hf0).1
   rw [h5];simpa using this
  rw [uT hlt]at h7
  exact⟨xs[i],h7,by rw [←hD];simp [hlt]⟩
 rwa [Bb]at this⟩
theorem Cv{m:Nat}(ht:P.underlying t=some (.array m e))(hc:P.cellsOf t=cells.length)(hf:FC P W held 0 ((List.range m).map fun i=>(e,i*P.cellsOf e)) Ds cells):HV P W held t (.agg Ds) cells:=⟨hc,fun fuel cs x hx hD=>by
 obtain⟨xs,n,rfl,h3,h4,h5,h6⟩:=DataW.trod_array ht hx
 rw [h3]at hD
 simp only [DataW.agg.injEq]at hD
 have:=hf n cs (by rw [h4,hc];omega) fun i f hi=>by
  rw [Dc]at hi
  obtain⟨j,hj,rfl⟩:=sf.1 hi
  obtain⟨hlt,hj2⟩:=md.1 hj
  simp at hlt hj2
  subst hj2
  have h7:=h6 i hlt
  have hlt' :i<xs.length:=by rw [h5];exact hlt
  rw [uT hlt']at h7
  exact⟨xs[i],h7,by rw [←hD];simp [hlt']⟩
 rwa [Bb]at this⟩
theorem Az: ∀{L:List (String×DataW Unit)} {ps:List MemPlace},DataW.LaidVars P W L ps→ ∀n d,(n,d)∈L→ ∃g t cs fuel p,P.globalNamed n=some g∧(P.globals[g]?).map (·.type)=some t∧W.var? P n=some cs∧DataW.trod (fun _=>()) P W 0 (fun _=>true) false fuel t cs.toList=some (d,p)
 |(_,_)::_,_,⟨g,t,cs,fuel,p,_,h1,h2,h3,h4,_,_⟩,_,_,.head _=>⟨g,t,cs,fuel,p,h1,h2,h3,h4⟩
 |(_,_)::_,_,⟨_,_,_,_,_,_,_,_,_,_,h,_⟩,n,d,.tail _ hm=>Az h n d hm
theorem sI{L:List (String×DataW Unit)}(h:laidMet P L W){n:String}{d:DataW Unit}(hm:(n,d)∈L){g:Nat}(hg:P.globalNamed n=some g)(ht:(P.globals[g]?).map (·.type)=some t)(hc:HV P W false t d cells):
  ∃c T fr,W.heap[g]? =some (.cells c T fr)∧c.toList.take cells.length=cells:=by
 obtain⟨ps,hL,_,_⟩:=h
 obtain⟨g',t',cs,fuel,p,h1,h2,h3,h4⟩:=Az hL n d hm
 obtain rfl:=jW (hg.symm.trans h1)
 obtain rfl:=jW (ht.symm.trans h2)
 have h5:=hc.2 fuel _ _ h4 rfl
 unfold World.var? at h3
 rw [hg]at h3
 simp only [kU]at h3
 split at h3
 ·rename_i c T fr hb
  cases h3
  exact⟨_,_,_,hb,by rw [h5,xd]⟩
 ·cases h3
end


variable{N:Fr}
section
theorem hH{y:α}(hag:r.agg=true)(hr: ∀S,r.rc S [v] y)(h:aG N G x (tV (.agg #[v]))):aG N G x (tD r y):=fun S a hf=>⟨[v],by rw [Rp.val,cU hag];exact h S a hf,hr S⟩
end

section
variable{N:Nat}{w0:World}{S0:SH}{fn:Func}{O1:List OE}{ι:Type}{t:ι→Ty}{O2:ι→List OE}
end
section
variable{c:Code}
end


theorem J{α:Sort _}{a:α}:a=a:=rfl
theorem aT:True:=trivial
abbrev bD(x:Int):Ty:=tD (rI .i64) x
abbrev eH(x:Bool):Ty:=tD rB x
abbrev fD{α:Type}(l:List α):Ty:=tD (rI .i64) (l.length:Int)
abbrev dG:Rp (List Int):=dz (rI .i64)
abbrev dX(l:List Int):Ty:=tD (dz (rI .i64)) l
abbrev dH{α:Type}(r:Rp α)(l:List α):Ty:=tD (dz r) l
abbrev nb{α:Type}(l:Option Nat)(c:Nat)(xs:List α):Ty:=tV (aC l c xs.length)
theorem bl: ∀{G' G:gT},G'.map (fun p=>look G p.1)=G'.map (fun p=>some p.2)→Bu G' G
 |[],_,_=>trivial
 |(_,_)::_,_,h=>⟨(List.cons.inj h).1,bl (List.cons.inj h).2⟩

variable{bytes sz:Nat}
section
theorem cL{x:Nat}{t:Ty}(h:look G x=some t):bH E O G ⟨dst,.move (.tmp x),ty,pos,after,g⟩ t:=bA (ht h)
theorem vB{x:Nat}{t:Ty}(h:look G x=some t):bH E O G ⟨dst,.assign (.tmp x),ty,pos,after,g⟩ t:=aP (ht h)
theorem d9{n:Int}:bH E O G ⟨dst,.assign (.const (.int k n)),ty,pos,after,g⟩ (tD (rI k) n):=aP hI
theorem eZ:bH E O G ⟨dst,.assign (.const (.bool b)),ty,pos,after,g⟩ (tD rB b):=aP hB
theorem bz{x:α}{p:Nat}(ti:TI E.P U sz bytes agg z)(hp:look G p=some (bj r x))(hs:(r.sz,r.agg)=(sz,agg)):
  bH E O G ⟨dst,.load U (.tmp p),ty,pos,after,g⟩ (tD r x):=bp ti (Prod.mk.inj hs).1 (Prod.mk.inj hs).2 (ht hp)
theorem cr{get:α→β}{x:α}{off:Nat}{p:Nat}(hf:bJ E.P T i=some (off,sz))(hq:ik r off q get)(hp:look G p=some (bj r x))(h0:(!(Nat.beq sz 0)&&Nat.ble (off+q.sz) r.sz)=true):bH E O G ⟨dst,.fieldAddr T (.tmp p) i,ty,pos,after,g⟩ (bj q (get x)):=
 hJ hf (by cases h:Nat.beq sz 0<;>simp [h]at h0 ⊢) hq (by revert h0;cases Nat.ble (off+q.sz) r.sz<;>simp) (ht hp)
theorem gV{x:Nat}(hu:E.P.underlying t=some (.slice e))(hx:look G x=some (tD (dz r) xs)):
  bH E O G ⟨dst,.call ⟨.builtin .len,#[.tmp x],#[t]⟩,ty,pos,after,g⟩ (tD (rI .i64) (xs.length:Int)):=ca hu (ht hx)
theorem iU{ts:List Ty}{x:Nat}{t:Ty}(hi:ts[i]? =some t)(hx:look G x=some (tT ts)):bH E O G ⟨dst,.extract (.tmp x) i,ty,pos,after,g⟩ t:=v6 hi (ht hx)
theorem gY{v:α}{x:Nat}(hx:look G x=some (tD r v)):bH E O G ⟨dst,.box T (.tmp x),ty,pos,after,g⟩ (bj r v):=BO (ht hx)
theorem mv{x:Nat}{q:Bool}(hc:look G c=some (tD rB b))(hx:look G x=some (k6 b (tD rB q))):bH E O G ⟨dst,.pick (.tmp c) (.tmp x) (.const (.bool false)),ty,pos,after,g⟩ (tD rB (b&&q)):=mL (ht hc) (fun hb=>bq hx hb)
theorem oB{x:Nat}{q:Bool}(hc:look G c=some (tD rB b))(hx:look G x=some (k6 (!b) (tD rB q))):bH E O G ⟨dst,.pick (.tmp c) (.const (.bool true)) (.tmp x),ty,pos,after,g⟩ (tD rB (b||q)):=oo (ht hc) (fun hb=>bq hx (pG hb))
variable{xt yt:TypeId}{x y:Nat}{m n:Int}
theorem ej(hx:look G x=some (tD (rI k) m))(hy:look G y=some (tD (rI k) n)):bH E O G ⟨dst,.binOp .lss xt (.tmp x) (.tmp y) yt,ty,pos,after,g⟩ (tD rB (decide (m<n))):=eW (ht hx) (ht hy)
theorem jR{j:IntKind}(hx:look G x=some (tD (rI j) m)):bH E O G ⟨dst,.binOp .eql xt (.tmp x) (.const (.int j n)) yt,ty,pos,after,g⟩ (tD rB (m==n)):=cj (ht hx) hI
theorem yr{j:IntKind}(hx:look G x=some (tD (rI j) m)):bH E O G ⟨dst,.binOp .neq xt (.tmp x) (.const (.int j n)) yt,ty,pos,after,g⟩ (tD rB (m !=n)):=dq (ht hx) hI
theorem km{y:α}{x ix:Nat}{k:IntKind}{i:Int}(hu:E.P.underlying t=some (.slice e))(ti:TI E.P e sz bytes agg z)(hsz:r.sz=sz)(hx:look G x=some (tD (dz r) xs))(hi:look G ix=some (tD (rI k) i))(hy:eG xs i=some y):
  bH E O G ⟨dst,.indexAddr t (.tmp x) (.tmp ix),ty,pos,after,g⟩ (bj r y):=aO hu ti hsz (ht hx) (ht hi) hy
theorem jQ{x:Nat}{xt yt:TypeId}(hi:i<9223372036854775807)(hx:look G x=some (tD (rI .i64) (i:Int))):
  bH E O G ⟨dst,.binOp .add xt (.tmp x) (.const (.int .i64 1)) yt,ty,pos,after,g⟩ (tD (rI .i64) ((i+1:Nat):Int)):=qN hi (ht hx) hI
theorem dY{off b o:Nat}{p:Nat}(n:Nat)(hf:bJ E.P T i=some (off,sz))(h0:Nat.beq sz 0=false)(hp:look G p=some (tV (aF b o)))(he:o+off=n):bH E O G ⟨dst,.fieldAddr T (.tmp p) i,ty,pos,after,g⟩ (tV (aF b n)):=gr (n:=n) hf h0 (ht hp) he
end
variable{op:Op}{ops:Array Oper}
section
variable{l:List Oper}
theorem zo{t:Ty}(hd:Nat.blt d E.N.n=true)(h:bH E O G ⟨some d,op,ty,pos,after,none⟩ t)(k:RG E ops Q l O ((d,t)::G)):
  RG E ops Q (⟨some d,op,ty,pos,after,none⟩::l) O G:=nK h hd k
def HH(n d:Nat)(r:Option Ty):Option Ty:=if Nat.blt d n then r else none
theorem gh{r:Option Ty}{t:Ty}(h:HH n d r=some t):Nat.blt d n=true∧r=some t:=by
 unfold HH at h;split at h
 case isTrue h1=>exact⟨h1,h⟩
 case isFalse=>cases h
theorem aH{x:Nat}{t:Ty}(h:HH E.N.n d (look G x)=some t)(k:RG E ops Q l O ((d,t)::G)):
  RG E ops Q (⟨some d,.move (.tmp x),ty,pos,after,none⟩::l) O G:=nK (bA (ht (gh h).2)) (gh h).1 k
theorem bC{x:Nat}{t:Ty}(h:HH E.N.n d (look G x)=some t)(k:RG E ops Q l O ((d,t)::G)):
  RG E ops Q (⟨some d,.assign (.tmp x),ty,pos,after,none⟩::l) O G:=nK (aP (ht (gh h).2)) (gh h).1 k
theorem aw(h:CG E Q y O G):RG E ops (Exit.then (y.wpIn (fw E.r) 0 E.P Q) Q) [] O G:=aQ (av h)
theorem ay{id:Nat}{l:List Oper}(h:RG E l.toArray (Exit.then (y.wpIn (fw E.r) 0 E.P Q) Q) l O G):CG E Q (.seq (.region id l.toArray false) y) O G:=af (am h)
theorem dn{β:Type _}{X Y:Option β}{r:β}{x:Code}(h:(if b=true then X else Y)=some r)(hb:look G c=some (tD rB b))(hx:X=some r→CG E Q x O G)(hy:Y=some r→CG E Q y O G):CG E Q (.cond (.tmp c) x y) O G:=
 kT (ht hb) (fun hc=>hx (ct h hc)) (fun hc=>hy (cf h hc))
theorem dJ(h:CG E Q y O G):CG E (Exit.then (y.wpIn (fw E.r) 0 E.P Q) Q) .skip O G:=bE (av h)
theorem co{t:Ty}(hj:(ops[j]?).bind (·.dst)=some gs)(hg:HH E.N.n gs (HH E.N.n d (look G gs))=some (tD rB b))(h:b=true→bH E O G ⟨some d,op,ty,pos,after,some (j,true)⟩ t)(k:RG E ops Q l O ((d,k6 b t)::G)):RG E ops Q (⟨some d,op,ty,pos,after,some (j,true)⟩::l) O G:=HB hj (gh hg).1 (gh (gh hg).2).2 (gh (gh hg).2).1 h k
theorem cZ{t:Ty}(hj:(ops[j]?).bind (·.dst)=some gs)(hg:HH E.N.n gs (HH E.N.n d (look G gs))=some (tD rB b))(h:(!b)=true→bH E O G ⟨some d,op,ty,pos,after,some (j,false)⟩ t)(k:RG E ops Q l O ((d,k6 (!b) t)::G)):RG E ops Q (⟨some d,op,ty,pos,after,some (j,false)⟩::l) O G:=HC hj (gh hg).1 (gh (gh hg).2).2 (gh (gh hg).2).1 h k
end
theorem bI{α:Type _}{β:Type _}{x:Option α}{k:α→Option β}{r:β}{P:Prop}(h:x.bind k=some r)(f: ∀y,x=some y→k y=some r→P):P:=by
 obtain⟨y,h1,h2⟩:=bs h;exact f y h1 h2
variable{u1:Ty}
section
variable{l:List Oper}{ts:List Ty}{t:Ty}
theorem u9{a c:Bool}(h:(a&&b&&c)=true):a=true∧b=true∧c=true:=by revert h;cases a<;>cases b<;>cases c<;>simp
theorem Ki{x:Option α}(h:x.isNone=true):x=none:=by cases x;rfl;cases h
theorem JW(h:ts[i]? =some t)(hb:(dh i o&&o.guard.isNone)=true)(k:bH E O [] o t): ∃(needs:List Nd) (t:Ty),ts[i]? =some t∧na G ts needs∧(needs.all (kz l o i))=true∧dh i o=true∧bL E O l.toArray (fk needs) o t:=
 ⟨[],t,h,trivial,rfl,(zG.1 hb).1,ae (Ki (zG.1 hb).2) k⟩
theorem ek(a:Nat)(h:ts[i]? =some t)(hu:qB G ts ⟨a,u,none⟩)(hb:([(⟨a,u,none⟩:Nd)].all (kz l o i)&&dh i o&&o.guard.isNone)=true)(k:bH E O [(a,u)] o t): ∃(needs:List Nd) (t:Ty),ts[i]? =some t∧na G ts needs∧(needs.all (kz l o i))=true∧dh i o=true∧bL E O l.toArray (fk needs) o t:=
 ⟨[(⟨a,u,none⟩:Nd)],t,h,⟨hu,trivial⟩,(u9 hb).1,(u9 hb).2.1,ae (Ki (u9 hb).2.2) k⟩
theorem c9(a:Nat)(j:Nat)(h:ts[i]? =some t)(hu:qB G ts ⟨a,u,(some j)⟩)(hb:([(⟨a,u,(some j)⟩:Nd)].all (kz l o i)&&dh i o&&o.guard.isNone)=true)(k:bH E O [(a,u)] o t): ∃(needs:List Nd) (t:Ty),ts[i]? =some t∧na G ts needs∧(needs.all (kz l o i))=true∧dh i o=true∧bL E O l.toArray (fk needs) o t:=
 ⟨[(⟨a,u,(some j)⟩:Nd)],t,h,⟨hu,trivial⟩,(u9 hb).1,(u9 hb).2.1,ae (Ki (u9 hb).2.2) k⟩
theorem wO(a:Nat)(a1:Nat)(j1:Nat)(h:ts[i]? =some t)(hu:qB G ts ⟨a,u,none⟩)(hu1:qB G ts ⟨a1,u1,(some j1)⟩)(hb:([(⟨a,u,none⟩:Nd),⟨a1,u1,(some j1)⟩].all (kz l o i)&&dh i o)=true)(k:bL E O l.toArray [(a,u),(a1,u1)] o t): ∃(needs:List Nd) (t:Ty),ts[i]? =some t∧na G ts needs∧(needs.all (kz l o i))=true∧dh i o=true∧bL E O l.toArray (fk needs) o t:=
 ⟨[(⟨a,u,none⟩:Nd),⟨a1,u1,(some j1)⟩],t,h,⟨hu,hu1,trivial⟩,(zG.1 hb).1,(zG.1 hb).2,k⟩
theorem eo(a:Nat)(j:Nat)(a1:Nat)(j1:Nat)(h:ts[i]? =some t)(hu:qB G ts ⟨a,u,(some j)⟩)(hu1:qB G ts ⟨a1,u1,(some j1)⟩)(hb:([(⟨a,u,(some j)⟩:Nd),⟨a1,u1,(some j1)⟩].all (kz l o i)&&dh i o&&o.guard.isNone)=true)(k:bH E O [(a,u),(a1,u1)] o t): ∃(needs:List Nd) (t:Ty),ts[i]? =some t∧na G ts needs∧(needs.all (kz l o i))=true∧dh i o=true∧bL E O l.toArray (fk needs) o t:=
 ⟨[(⟨a,u,(some j)⟩:Nd),⟨a1,u1,(some j1)⟩],t,h,⟨hu,hu1,trivial⟩,(u9 hb).1,(u9 hb).2.1,ae (Ki (u9 hb).2.2) k⟩
theorem mi(a:Nat)(j:Nat)(a1:Nat)(j1:Nat)(h:ts[i]? =some t)(hu:qB G ts ⟨a,u,(some j)⟩)(hu1:qB G ts ⟨a1,u1,(some j1)⟩)(hb:([(⟨a,u,(some j)⟩:Nd),⟨a1,u1,(some j1)⟩].all (kz l o i)&&dh i o)=true)(k:bL E O l.toArray [(a,u),(a1,u1)] o t): ∃(needs:List Nd) (t:Ty),ts[i]? =some t∧na G ts needs∧(needs.all (kz l o i))=true∧dh i o=true∧bL E O l.toArray (fk needs) o t:=
 ⟨[(⟨a,u,(some j)⟩:Nd),⟨a1,u1,(some j1)⟩],t,h,⟨hu,hu1,trivial⟩,(zG.1 hb).1,(zG.1 hb).2,k⟩
theorem vA(a:Nat)(j:Nat)(a1:Nat)(j1:Nat)(a2:Nat)(j2:Nat){u2:Ty}(h:ts[i]? =some t)(hu:qB G ts ⟨a,u,(some j)⟩)(hu1:qB G ts ⟨a1,u1,(some j1)⟩)(hu2:qB G ts ⟨a2,u2,(some j2)⟩)(hb:([(⟨a,u,(some j)⟩:Nd),⟨a1,u1,(some j1)⟩,⟨a2,u2,(some j2)⟩].all (kz l o i)&&dh i o&&o.guard.isNone)=true)(k:bH E O [(a,u),(a1,u1),(a2,u2)] o t): ∃(needs:List Nd) (t:Ty),ts[i]? =some t∧na G ts needs∧(needs.all (kz l o i))=true∧dh i o=true∧bL E O l.toArray (fk needs) o t:=
 ⟨[(⟨a,u,(some j)⟩:Nd),⟨a1,u1,(some j1)⟩,⟨a2,u2,(some j2)⟩],t,h,⟨hu,hu1,hu2,trivial⟩,(u9 hb).1,(u9 hb).2.1,ae (Ki (u9 hb).2.2) k⟩
theorem Ct(a:Nat)(j:Nat)(a1:Nat)(j1:Nat)(a2:Nat)(j2:Nat){u2:Ty}(h:ts[i]? =some t)(hu:qB G ts ⟨a,u,(some j)⟩)(hu1:qB G ts ⟨a1,u1,(some j1)⟩)(hu2:qB G ts ⟨a2,u2,(some j2)⟩)(hb:([(⟨a,u,(some j)⟩:Nd),⟨a1,u1,(some j1)⟩,⟨a2,u2,(some j2)⟩].all (kz l o i)&&dh i o)=true)(k:bL E O l.toArray [(a,u),(a1,u1),(a2,u2)] o t): ∃(needs:List Nd) (t:Ty),ts[i]? =some t∧na G ts needs∧(needs.all (kz l o i))=true∧dh i o=true∧bL E O l.toArray (fk needs) o t:=
 ⟨[(⟨a,u,(some j)⟩:Nd),⟨a1,u1,(some j1)⟩,⟨a2,u2,(some j2)⟩],t,h,⟨hu,hu1,hu2,trivial⟩,(zG.1 hb).1,(zG.1 hb).2,k⟩
end

section
variable{c:Code}
theorem hBc:aG N G (.const (.bool b)) (tD rB b):=hB
theorem FX(b:Bool){l:List Oper}(h1:b=true→RG E ops Q l O G)(h2:b=false→RG E ops Q l O G):RG E ops Q l O G:=by
 cases b with
 |true=>exact h1 rfl
 |false=>exact h2 rfl
theorem AY{d:Option Tmp}{pol:Bool}(hj:(ops[j]?).bind (·.dst)=some gs)(hgs:Nat.blt gs E.N.n=true)(hb:look G gs=some (tD rB b))(e:b=pol)(k:RG E ops Q (⟨d,op,ty,pos,after,none⟩::rest) O G):
  RG E ops Q (⟨d,op,ty,pos,after,some (j,pol)⟩::rest) O G:=fun a w S st=>by
 have hgs' :gs<a.tmps.size:=by rw [st.facts.size];simpa [oa] using hgs
 have hw:=oF (o:=⟨d,op,ty,pos,after,some (j,pol)⟩) rfl hj hgs' (ke hb S a st.facts)
 have h1:=k a w S st
 unfold wpListIn at h1 ⊢
 rw [hw,e]
 rw [cU (show Region.wanted ⟨d,op,ty,pos,after,none⟩ (yielded ops a.tmps)=true from rfl)]at h1
 rw [cU (show(true&&(pol==pol))=true from by simp)]
 exact h1
theorem wy{pol:Bool}(hj:(ops[j]?).bind (·.dst)=some gs)(hgs:Nat.blt gs E.N.n=true)(hb:look G gs=some (tD rB b))(e:b= !pol)(hd:Nat.blt d E.N.n=true)(k:RG E ops Q rest O ((d,sj)::G)):
  RG E ops Q (⟨some d,op,ty,pos,after,some (j,pol)⟩::rest) O G:=fun a w S st=>by
 have hgs' :gs<a.tmps.size:=by rw [st.facts.size];simpa [oa] using hgs
 have hw:=oF (o:=⟨some d,op,ty,pos,after,some (j,pol)⟩) rfl hj hgs' (ke hb S a st.facts)
 refine wpListIn_step fun K hK=>?_
 rw [hw,e,cM (by cases pol<;>simp)]
 exact⟨fun _ _=>trivial,hK _ _ (k _ _ S (st.step (dE _ _ _) st.sat hd trivial))⟩
theorem DH{c y:Operand}{t:Ty}(hc:aG E.N G c (tD rB b))(e:b=true)(hx:aG E.N G x t):bH E O G ⟨dst,.pick c x y,ty,pos,after,g⟩ t:=qL hc (fun _=>hx) (fun h=>by rw [e]at h;cases h)
theorem DI{c y:Operand}{t:Ty}(hc:aG E.N G c (tD rB b))(e:b=false)(hy:aG E.N G y t):bH E O G ⟨dst,.pick c x y,ty,pos,after,g⟩ t:=qL hc (fun h=>by rw [e]at h;cases h) (fun _=>hy)
end

structure Cl{κ:Type} [DecidableEq κ](P:Program)(kt:TypeId)(kv:κ→Value):Prop where
 chk: ∀e w k,(Instr.checkKey e 10000 kt (kv k)).run P w= .ok () w
 eql: ∀w a b,(Op.equal kt (kv a) (kv b)).run P w= .ok (decide (a=b)) w
 wide:(match P.underlying kt with|some (.array _ _)|some (.struct _)=>true|_=>false)=true
 same: ∀k,Instr.sameBits 10000 (kv k) (kv k)=true
 inj: ∀a b,kv a=kv b→a=b
def k2(l:List Int):Int×Int:=(l.getD 0 0,l.getD 1 0)
variable{kt:TypeId}{kv:κ→Value}{γ:β→Ty}
section
variable [DecidableEq κ]{k:κ}
theorem zd{w:World}{S:SH}{k:κ}(hk:Cl P kt kv): ∀{es:List MapEntry} {m:List (κ×β)} (i:Nat),nF γ kv S es m→
  ∃u,(Instr.findAsking kt (kv k) es i).run P w= .ok u w∧((u=none∧(∀x∈es,x.key≠kv k)∧dB m k=none)∨ ∃(j:Nat) (e:MapEntry) (y:β),u=some (i+j,e.val)∧es[j]? =some e∧e.key=kv k∧dB m k=some y∧(γ y).p S e.val)
 |[],[],i,_=>⟨none,by simp [Instr.findAsking],.inl ⟨rfl,fun x hx=>(by cases hx),rfl⟩⟩
 |e::es,q::m,i,⟨h1,h2,h3,h4⟩=>by
  by_cases hq:k=q.1
  ·subst hq
   refine⟨some (i,e.val),?_,.inr ⟨0,e,q.2,rfl,rfl,h1,by unfold dB;rw [cU rfl],h2⟩⟩
   unfold Instr.findAsking
   simp [h1,hk.eql,Result.andThen]
  ·obtain⟨u,g1,g2⟩:=zd hk (k:=k) (w:=w) (i+1) h4
   refine⟨u,?_,?_⟩
   ·unfold Instr.findAsking
    simp [h1,hk.eql,hq,Result.andThen,g1]
   ·have hm:dB (q::m) k=dB m k:=by conv=>lhs;unfold dB;rw [cM (fun e=>hq e.symm)]
    rw [hm]
    rcases g2 with⟨e1,e2,e3⟩|⟨j,e',y,e1,e2,e3,e4,e5⟩
    ·refine .inl ⟨e1,fun x hx=>?_,e3⟩
     rcases lM.1 hx with rfl|hx
     ·rw [h1];exact fun e=>hq (hk.inj _ _ e).symm
     ·exact e2 x hx
    ·exact .inr ⟨j+1,e',y,by rw [e1];congr 2;omega,by simpa using e2,e3,e4,e5⟩
theorem CK{q k:κ}{y:β}(hk:q≠k): ∀(m:List (κ×β)),(∀p∈m,p.1≠q)→ ∀p∈cw m k y,p.1≠q:=by
 intro m
 induction m with
 |nil=>intro _ p hp;rw [Df.1 hp];exact fun e=>hk e.symm
 |cons p0 m ih=>
  intro hm p hp
  unfold cw at hp
  split at hp
  ·rcases lM.1 hp with rfl|hp
   ·exact fun e=>hk e.symm
   ·exact hm p (lA _ hp)
  ·rcases lM.1 hp with rfl|hp
   ·exact hm _ (lr ..)
   ·exact ih (fun p hp=>hm p (lA _ hp)) p hp
theorem wp(hinj: ∀a b,kv a=kv b→a=b){y:β}{v:Value}{born:Nat}(hv:(γ y).p S v): ∀{es:List MapEntry} {m:List (κ×β)},nF γ kv S es m→(∀x∈es,x.key≠kv k)→nF γ kv S (es++[⟨kv k,v,born⟩]) (cw m k y)
 |[],[],_,_=>⟨rfl,hv,fun _ h=>(by cases h),trivial⟩
 |e::es,q::m,⟨h1,h2,h3,h4⟩,hn=>by
  have hq:q.1≠k:=fun e' =>hn e (lr ..) (by rw [h1,e'])
  have hm:cw (q::m) k y=q::cw m k y:=by conv=>lhs;unfold cw;rw [cM hq]
  rw [hm]
  exact⟨h1,h2,CK hq m h3,wp hinj hv h4 fun x hx=>hn x (lA _ hx)⟩
theorem tR(hinj: ∀a b,kv a=kv b→a=b){y:β}{v:Value}(hv:(γ y).p S v): ∀{es:List MapEntry} {m:List (κ×β)},nF γ kv S es m→ ∀j e,es[j]? =some e→e.key=kv k→nF γ kv S (es.modify j fun e=>{e with key:=kv k,val:=v}) (cw m k y)
 |[],[],_,j,e,he,_=>by cases he
 |e0::es,q::m,⟨h1,h2,h3,h4⟩,j,e,he,hek=>by
  cases j with
  |zero=>
   have he' :e0=e:=jW he
   subst he'
   have hq:q.1=k:=hinj _ _ (by rw [←h1,hek])
   have hm:cw (q::m) k y=(k,y)::m:=by conv=>lhs;unfold cw;rw [cU hq]
   rw [hm,List.modify_zero_cons]
   exact⟨rfl,hv,fun p hp=>by rw [←hq];exact h3 p hp,h4⟩
  |succ j=>
   have he' :es[j]? =some e:=by simpa using he
   obtain⟨y',hy'⟩: ∃q' ∈m,q'.1=k:=by
    have hmem: ∀{es:List MapEntry} {m:List (κ×β)},nF γ kv S es m→ ∀(j:Nat) (e:MapEntry),es[j]? =some e→e.key=kv k→ ∃q' ∈m,q'.1=k:=by
     intro es
     induction es with
     |nil=>intro m _ j e he _;simp at he
     |cons e1 es ih=>
      intro m hm j e he hek
      cases m with
      |nil=>exact hm.elim
      |cons q1 m=>
       obtain⟨g1,_,_,g4⟩:=hm
       cases j with
       |zero=>
        have e2:e1=e:=jW he
        subst e2
        exact⟨q1,lr ..,hinj _ _ (by rw [←g1,hek])⟩
       |succ j=>
        obtain⟨q',a1,a2⟩:=ih g4 j e (by simpa using he) hek
        exact⟨q',lA _ a1,a2⟩
    exact hmem h4 j e he' hek
   have hq:q.1≠k:=fun e' =>h3 y' hy'.1 (by rw [hy'.2,e'])
   have hm:cw (q::m) k y=q::cw m k y:=by conv=>lhs;unfold cw;rw [cM hq]
   rw [hm,uq]
   exact⟨h1,h2,CK hq m h3,tR hinj hv h4 j e he' hek⟩
end
section
variable [DecidableEq κ]{b:Nat}{k:κ}{i v:Operand}{dst:Option Nat}
end

def n9(p:Int×Int×Int):Value:= .agg #[.int .i64 p.1,.int .i64 p.2.1,.int .i64 p.2.2]
theorem Mb{kt el:Nat}{l:Array Field} [DecidableEq α]{mk:Int×Int×Int→α}(h:P.underlying kt=some (.struct l))(hl:l.toList.map (fun f=>(f.type,f.offset))=[(el,0),(el,1),(el,2)])(he:P.underlying el=some (.int .i64))(ti:TI P el sz bytes agg z)(hsz:Nat.beq sz 1=true)(hag:r.agg=true)(hr: ∀p:Int×Int×Int,r.rc (fun _=>none) [.int .i64 p.1,.int .i64 p.2.1,.int .i64 p.2.2] (mk p))(hinj: ∀p q,mk p=mk q→p=q)(hq:F1 P kt r):Cl P kt n9 where
 chk:=fun e w k=>by
  obtain⟨i,zv,hi,hs,_⟩:=ti.get
  have h1:sz=1:=q8 hsz
  have ha:(isAgg el).run P w= .ok false w:=by
   simp [isAgg,lN he,Result.andThen]
  have h3: ∀(j:Nat) (x:Int) (cs:Array Value),cs[j]? =some (.int .i64 x)→(part el cs j).run P w= .ok (.int .i64 x) w:=fun j x cs hj=>by
   simp [part,ha,Result.andThen,hj]
  have h4: ∀x:Int,(Instr.checkKey e 9999 el (.int .i64 x)).run P w= .ok () w:=fun x=>by
   show(Instr.checkKey e (9998+1) el (.int .i64 x)).run P w= .ok () w
   unfold Instr.checkKey
   simp only [lO,lN he,mu]
   rfl
  have e1:=h3 0 k.1 #[.int .i64 k.1,.int .i64 k.2.1,.int .i64 k.2.2] rfl
  have e2:=h3 1 k.2.1 #[.int .i64 k.1,.int .i64 k.2.1,.int .i64 k.2.2] rfl
  have e3:=h3 2 k.2.2 #[.int .i64 k.1,.int .i64 k.2.1,.int .i64 k.2.2] rfl
  obtain⟨l0,rfl⟩: ∃l0:List Field,l=l0.toArray:=⟨l.toList,by simp⟩
  have hlen:l0.length=3:=by simpa using congrArg List.length hl
  obtain⟨f0,f1,f2,rfl⟩: ∃f0 f1 f2,l0=[f0,f1,f2]:=by
   match l0,hlen with
   |[a,b,c],_=>exact⟨a,b,c,rfl⟩
  simp only [vo,List.map_nil,List.cons.injEq,Prod.mk.injEq,and_true]at hl
  obtain⟨⟨a0,b0⟩,⟨a1,b1⟩,⟨a2,b2⟩⟩:=hl
  show(Instr.checkKey e (9999+1) kt (n9 k)).run P w= .ok () w
  unfold Instr.checkKey
  simp only [n9,lO,lN h,mu]
  by_cases n0:f0.name= "_" <;>by_cases n1:f1.name= "_" <;>by_cases n2:f2.name= "_" <;>simp [n0,n1,n2,a0,a1,a2,b0,b1,b2,e1,e2,e3,h4,Result.andThen]
 eql:=fun w a b=>by
  have:=hq.run (fun _=>none) _ _ _ _ 9980 w (hr a) (hr b)
  have e1:decide (mk a=mk b)=decide (a=b):=decide_eq_decide.2 ⟨fun e=>hinj a b e,fun e=>by rw [e]⟩
  rw [e1]at this
  have hv: ∀p:Int×Int×Int,r.val [.int .i64 p.1,.int .i64 p.2.1,.int .i64 p.2.2]=n9 p:=fun p=>by simp [Rp.val,hag,n9]
  rw [hv,hv]at this
  show(Op.equalIn (9980+20) kt (n9 a) (n9 b)).run P w=_
  exact this
 wide:=by rw [h]
 same:=fun k=>by
  show Instr.sameBits (9999+1) (n9 k) (n9 k)=true
  unfold Instr.sameBits n9
  simp only [List.zip_cons_cons,List.zip_nil_left,List.all_cons,List.all_nil]
  unfold Instr.sameBits
  simp
 inj:=fun a b h=>by
  obtain⟨a1,a2,a3⟩:=a;obtain⟨b1,b2,b3⟩:=b
  simpa [n9] using h
section
variable [DecidableEq κ]{b:Nat}{k:κ}{i v:Operand}{dst:Option Nat}
theorem qj{x:Operand}{y:α}{p:Int×Int×Int}(hag:r.agg=true)(hr: ∀S cs,r.rc S cs y→cs=[.int .i64 p.1,.int .i64 p.2.1,.int .i64 p.2.2])(h:aG N G x (tD r y)):uM N G x (n9 p):=fun S a hf=>by
 obtain⟨cs,e,h1⟩:=h S a hf
 rw [e,hr S cs h1]
 simp [Rp.val,hag,n9]
theorem xX{S:SH}: ∀{es:List MapEntry} {m:List (κ×β)},nF γ kv S es m→es.length=m.length
 |[],[],_=>rfl
 |_::_,_::_,⟨_,_,_,h⟩=>by rw [tf,tf,xX h]
 |[],_::_,h=>h.elim
 |_::_,[],h=>h.elim
end
variable{os:Array Obj}
section
variable [DecidableEq κ]{V:MV β}{b:Nat}{os:List (Option Nat×Nat)}{h:Option κ}{dst:Option Nat}
end
section
variable{e:Exit}
theorem yh{l:Option Nat}{ys:List α}{lo hi:Int}(k:Nat)(hs:du xs lo hi=some ys)(hk:look G k=some (tV (iZ r.sz l cap lo.toNat ys.length)))(h:AT E Q e (bV r U l cap xs::O) ((k,tD (dz r) ys)::G)):AT E Q e (bV r U l cap xs::O) G:=fun a w S st=>h a w S (st.viewAt hs hk)
end

section
variable [DecidableEq κ]
def kF(γ:β→Ty)(kv:κ→Value)(b:Nat)(m:List (κ×β)):OE where
 fp:=fun j=>j=b
 p:=fun w S=>S b=none∧ ∃es clock,w.heap[b]? =some (.map es clock)∧nF γ kv S es.toList m∧MapKept.Stamped es clock
 here:=by
  intro w S ⟨_,es,clock,h3,_⟩ j hj
  subst hj
  exact(uO.1 h3).1
 kept:=by
  intro C w w' S S' ⟨h1,es,clock,h3,h4,h5⟩ k hC
  have hlt:=(uO.1 h3).1
  exact⟨by rw [k.old b hlt (hC b rfl)];exact h1,es,clock,by rw [k.heap b hlt (hC b rfl)];exact h3,rW k.keep h4,h5⟩
def yY(γ:β→Ty)(kv:κ→Value)(b:Nat)(m:List (κ×β))(k:κ)(s:Nat):OE where
 fp:=fun j=>j=b
 p:=fun w S=>S b=none∧ ∃es clock,w.heap[b]? =some (.map es clock)∧nF γ kv S es.toList m∧MapKept.Stamped es clock∧ ∃(j:Nat) (e:MapEntry),es.toList[j]? =some e∧e.key=kv k∧e.born=s
 here:=by
  intro w S ⟨_,es,clock,h3,_⟩ j hj
  subst hj
  exact(uO.1 h3).1
 kept:=by
  intro C w w' S S' ⟨h1,es,clock,h3,h4,h5⟩ k hC
  have hlt:=(uO.1 h3).1
  exact⟨by rw [k.old b hlt (hC b rfl)];exact h1,es,clock,by rw [k.heap b hlt (hC b rfl)];exact h3,rW k.keep h4,h5⟩
theorem ur(m:List (κ×β))(k:κ)(y:β):dB (cw m k y) k=some y:=by
 induction m with
 |nil=>unfold cw dB;rw [cU rfl]
 |cons p m ih=>
  unfold cw
  split
  ·unfold dB;rw [cU rfl]
  ·rename_i h
   unfold dB;rw [cM h];exact ih
theorem o5{α:Type}{f g:α→α}: ∀(l:List α) (j:Nat) (e:α),l[j]? =some e→f e=g e→l.modify j f=l.modify j g
 |[],_,_,h,_=>by simp at h
 |a::l,0,e,h,hfg=>by
  have:a=e:=by simpa using h
  subst this
  simp [hfg]
 |a::l,j+1,e,h,hfg=>by
  simp only [List.getElem?_cons_succ]at h
  simp only [List.modify_succ_cons]
  rw [o5 l j e h hfg]
end
variable{et:TypeId}
section
variable [DecidableEq κ]{b:Nat}{k:κ}{i v u:Operand}{dst:Option Nat}
theorem uJ(γ:β→Ty)(kv:κ→Value)(hd:Nat.blt d E.N.n=true)(k: ∀b,RG E ops Q rest (kF γ kv b []::O) ((d,tV (ec b))::G)):
  RG E ops Q (⟨some d,.makeMap t none,ty,pos,after,none⟩::rest) O G:= .of rfl fun a w S st=>by
 obtain⟨he,hs',hno⟩:=dg (w:=w) (.map #[] 0) st.sat
 have hrun:(execOp a.eval ⟨some d,.makeMap t none,ty,pos,after,none⟩).run E.P w= .ok (.value (ec w.heap.size)) (w.alloc (.map #[] 0)):=by
  simp [execOp,Instr.makeMap,ec]
 refine⟨fun c h=>(by cases h),?_⟩
 rw [hrun]
 exact k w.heap.size _ _ S ⟨st.ext.step0 he,hs',jU st.own he ⟨hno,#[],0,uP w _,trivial,MapKept.stamped_empty 0⟩ (fun b hb=>wH hb.symm) st.base_le,st.facts.put hd rfl⟩
theorem o3{z:β}{zv:Value}(hm:E.P.underlying t=some (.map kt et))(hk:Cl E.P kt kv)(hz:ZV E.P et zv)(hzt: ∀S,(γ z).p S zv)(hmem:kF γ kv b m∈O)(hx:aG E.N G x (tV (ec b)))(hi:uM E.N G i (kv k)):
  bH E O G ⟨dst,.lookup t x i false,ty,pos,after,g⟩ (γ ((dB m k).getD z)):= .of_pure fun a w S hs ho hf=>by
 obtain⟨⟨_,es,clock,h3,h4,_⟩,_⟩:=ck.mem ho _ hmem
 have h1:a.eval x=ec b:=hx S a hf
 have h2:a.eval i=kv k:=hi S a hf
 obtain⟨u,g1,g2⟩:=zd hk (k:=k) (w:=w) 0 h4
 have hfk:(Instr.findKey kt (kv k) es.toList).run E.P w= .ok u w:=by rw [run_findKey_eq w hk.wide];exact g1
 rcases g2 with⟨rfl,_,g3⟩|⟨j,e,y,rfl,_,_,g3,g4⟩
 ·refine⟨zv,?_,by rw [g3];exact hzt S⟩
  simp [execOp,h1,h2,Instr.lookup,ec,lN hm,vv h3,hk.chk,hfk,hz.run,Result.andThen]
 ·refine⟨e.val,?_,by rw [g3];exact g4⟩
  simp [execOp,h1,h2,Instr.lookup,ec,lN hm,vv h3,hk.chk,hfk,Result.andThen]
theorem vZ{y:β}{s:Nat}(hm:E.P.underlying t=some (.map kt et))(hk:Cl E.P kt kv)(hmem:yY γ kv b (cw m k y) k s∈O)(hx:aG E.N G x (tV (ec b)))(hi:uM E.N G i (kv k)):
  bH E O G ⟨dst,.lookup t x i false,ty,pos,after,g⟩ (γ y):= .of_pure fun a w S hs ho hf=>by
 obtain⟨⟨_,es,clock,h3,h4,_⟩,_⟩:=ck.mem ho _ hmem
 have h1:a.eval x=ec b:=hx S a hf
 have h2:a.eval i=kv k:=hi S a hf
 obtain⟨u,g1,g2⟩:=zd hk (k:=k) (w:=w) 0 h4
 have hfk:(Instr.findKey kt (kv k) es.toList).run E.P w= .ok u w:=by rw [run_findKey_eq w hk.wide];exact g1
 rcases g2 with⟨rfl,_,g3⟩|⟨j,e,y',rfl,_,_,g3,g4⟩
 ·rw [ur]at g3;cases g3
 ·rw [ur]at g3
  cases g3
  refine⟨e.val,?_,g4⟩
  simp [execOp,h1,h2,Instr.lookup,ec,lN hm,vv h3,hk.chk,hfk,Result.andThen]
theorem As(hu:E.P.underlying t=some (.map kt et))(hmem:kF γ kv b m∈O)(hx:aG E.N G x (tV (ec b))):
  bH E O G ⟨dst,.call ⟨.builtin .len,#[x],#[t]⟩,ty,pos,after,g⟩ (tD (rI .i64) (m.length:Int)):= .of_pure fun a w S hs ho hf=>by
 obtain⟨⟨_,es,clock,h3,h4,_⟩,_⟩:=ck.mem ho _ hmem
 have h1:a.eval x=ec b:=hx S a hf
 have h5:=xX h4
 refine⟨.int .i64 m.length,?_,cQ.2 rfl⟩
 rw [←h5]
 simp [execOp,resolve,invoke,builtin,Builtin.len_,lN hu,h1,ec,goInt,vv h3,Result.andThen]
theorem sS{z:β}{zv:Value}(hm:E.P.underlying t=some (.map kt et))(hk:Cl E.P kt kv)(hz:ZV E.P et zv)(hzt: ∀S,(γ z).p S zv)(hx:aG E.N G x (tV (ec b)))(hi:uM E.N G i (kv k)):
  EffOK E (kF γ kv b m::O) G ⟨some d,.mapEntry t x i,ty,pos,after,g⟩ (fun j=>yY γ kv b (cw m k ((dB m k).getD z)) k (j.h 0).2::O) (fun j=>tT [γ ((dB m k).getD z),tV (.int .i64 ((j.h 0).2:Nat))]):=fun a w S hs ho hf hb=>by
 have h1:a.eval x=ec b:=hx S a hf
 have h2:a.eval i=kv k:=hi S a hf
 obtain⟨⟨hno,es,clock,h5,h6,h7⟩,_⟩:=ho.1
 obtain⟨u,g1,g2⟩:=zd hk (k:=k) (w:=w) 0 h6
 have hfk:(Instr.findKey kt (kv k) es.toList).run E.P w= .ok u w:=by rw [run_findKey_eq w hk.wide];exact g1
 obtain⟨v0,st,es',cl',hrun,hv0,h8,h9,h10⟩: ∃(v0:Value) (st:Nat) (es' :Array MapEntry) (cl' :Nat),(Instr.mapEntry t (ec b) (kv k)).run E.P w= .ok (.tuple #[v0,goInt st]) {w with heap:=w.heap.setIfInBounds b (.map es' cl')}∧(γ ((dB m k).getD z)).p S v0∧
   nF γ kv S es'.toList (cw m k ((dB m k).getD z))∧MapKept.Stamped es' cl' ∧ ∃(j:Nat) (e:MapEntry),es'.toList[j]? =some e∧e.key=kv k∧e.born=st:=by
  rcases g2 with⟨rfl,g3,g4⟩|⟨j,e,y,rfl,g3,g4,g5,g6⟩
  ·refine⟨zv,clock,es.push ⟨kv k,zv,clock⟩,clock+1,?_,by rw [g4];exact hzt S,by rw [Array.toList_push,g4];exact wp hk.inj (hzt S) h6 g3,MapKept.stamped_push h7 g3,es.size,_,by rw [Array.toList_push,List.getElem?_append_right (by simp)];simp;rfl,rfl,rfl⟩
   simp [Instr.mapEntry,ec,lN hm,vv h5,hk.chk,hfk,hz.run,Result.andThen,Ez _ h5]
  ·simp only [pL]at hfk
   have hmod:es.toList.modify j (fun e=>{e with key:=kv k})=es.toList.modify j (fun e' =>{e' with key:=kv k,val:=e.val}):=o5 _ j e g3 rfl
   refine⟨e.val,e.born,es.modify j fun e=>{e with key:=kv k},clock,?_,by rw [g5];exact g6,?_,MapKept.stamped_modify h7 j _ (fun _ _=>rfl) (fun e' _ he' =>by
    rw [←Cr,g3]at he'
    cases he'
    exact g4.symm),j,{e with key:=kv k},?_,rfl,rfl⟩
   ·have hj:es[j]? =some e:=by rw [←Cr];exact g3
    simp [Instr.mapEntry,ec,lN hm,vv h5,hk.chk,hfk,Result.andThen,hj,g4,Instr.keyThatStays,hk.same,Ez _ h5]
   ·rw [Array.toList_modify,hmod,g5]
    exact tR hk.inj (y:=y) g6 h6 j e g3 g4
   ·rw [Array.toList_modify,List.getElem?_modify,g3]
    simp
 have hrun' :(execOp a.eval ⟨some d,.mapEntry t x i,ty,pos,after,g⟩).run E.P w= .ok (.value (.tuple #[v0,goInt st])) {w with heap:=w.heap.setIfInBounds b (.map es' cl')}:=by simp [execOp,h1,h2,hrun]
 refine⟨fun c h=>(by cases h),?_⟩
 rw [hrun']
 obtain⟨q1,q2⟩:=zI (o' := .map es' cl') h5
 obtain⟨f1,f2,f3⟩:=ju (O:=O) hs (w' :={w with heap:=w.heap.setIfInBounds b (.map es' cl')}) (kF γ kv b m) (yY γ kv b (cw m k ((dB m k).getD z)) k st) ho (fun _=>sb) (fun _=>sb) ⟨rfl,rfl,rfl,by simp,fy _⟩ (fun j hj=>q2 j hj) ⟨hno,es',cl',q1,h8,h9,h10⟩ hno
 exact⟨_,S,oi none st,rfl,f1.more fun k hk=>⟨_,lr ..,hk⟩,f2,f3,[v0,goInt st],rfl,hv0,rfl,trivial⟩
theorem qw{y:β}{s:Nat}(hk:Cl E.P kt kv)(hx:aG E.N G x (tV (ec b)))(hu:aG E.N G u (tV (.int .i64 (s:Nat))))(hv:aG E.N G v (γ y)):
  EffOK E (yY γ kv b m k s::O) G ⟨none,.entryStore t x u v,ty,pos,after,g⟩ (fun _=>kF γ kv b (cw m k y)::O) (fun _=>sj):=sR (fun _ h=>(by cases h)) fun a w S hs ho hf hb=>by
 have h1:a.eval x=ec b:=hx S a hf
 have h2:a.eval u= .int .i64 (s:Nat):=hu S a hf
 have h3:(γ y).p S (a.eval v):=hv S a hf
 obtain⟨⟨hno,es,clock,h5,h6,h7,j,e,g3,g4,g5⟩,_⟩:=ho.1
 have hidx:es.findIdx? (fun e=>((e.born:Nat):Int)==((s:Nat):Int))=some j:=by
  rw [WideElems.findIdx_arr,←g5]
  exact WideElems.findIdx_born h7.2.1 g3
 have hmod:es.toList.modify j (fun e=>{e with val:=a.eval v})=es.toList.modify j (fun e' =>{e' with key:=kv k,val:=a.eval v}):=o5 _ j e g3 (by rw [←g4])
 have hrun:(Instr.entryStore t (ec b) (.int .i64 (s:Nat)) (a.eval v)).run E.P w= .ok () {w with heap:=w.heap.setIfInBounds b (.map (es.modify j fun e=>{e with val:=a.eval v}) clock)}:=by
  simp [Instr.entryStore,ec,vv h5,asInt,asIntOf,hidx,Result.andThen,Ez _ h5]
 have hrun' :(execOp a.eval ⟨none,.entryStore t x u v,ty,pos,after,g⟩).run E.P w= .ok .skip {w with heap:=w.heap.setIfInBounds b (.map (es.modify j fun e=>{e with val:=a.eval v}) clock)}:=by simp [execOp,h1,h2,hrun]
 obtain⟨q1,q2⟩:=zI (o' := .map (es.modify j fun e=>{e with val:=a.eval v}) clock) h5
 have h8:nF γ kv S (es.modify j fun e=>{e with val:=a.eval v}).toList (cw m k y):=by
  rw [Array.toList_modify,hmod]
  exact tR hk.inj h3 h6 j e g3 g4
 obtain⟨f1,f2,f3⟩:=ju (O:=O) hs (w' :={w with heap:=w.heap.setIfInBounds b (.map (es.modify j fun e=>{e with val:=a.eval v}) clock)}) (yY γ kv b m k s) (kF γ kv b (cw m k y)) ho (fun _=>sb) (fun _=>sb) ⟨rfl,rfl,rfl,by simp,fy _⟩ (fun j hj=>q2 j hj) ⟨hno,_,clock,q1,h8,MapKept.stamped_modify h7 j _ (fun _ _=>rfl) (fun _ _ _=>rfl)⟩ hno
 exact⟨_,S,kp,hrun',f1.more fun k hk=>⟨_,lr ..,hk⟩,f2,f3⟩
end
open Go.Sort Go.Shelf

theorem sH{k:Nat}(h:k<w.heap.size):(grow w os).heap[k]? =w.heap[k]? :=by
 unfold grow;exact Array.getElem?_append_left h
theorem AC [Inhabited α]{enc:α→Value}{b off:Nat}{d:Array α}{k:Nat}(h:k≠b):(putRow enc w b off d).heap[k]? =w.heap[k]? :=by
 unfold putRow mapBlock
 rw [Array.getElem?_modify,cM (Ne.symm h)]
theorem sG [Inhabited α]{enc:α→Value}{b off m:Nat}{d:Array α}{k:Nat}(hk:k<w.heap.size)(h:k≠b):(sortWorld enc w b off m d os).heap[k]? =w.heap[k]? :=by
 unfold sortWorld
 rw [sH (by rw [size_putRow];exact hk),AC h];rfl
theorem y5 [Inhabited α]{enc:α→Value}{b off m:Nat}{d:Array α}{c:Array Value}{fr:Nat×Nat}(h:w.heap[b]? =some (.cells c T fr)):
  (sortWorld enc w b off m d os).heap[b]? =some (.cells (putCells enc off d c) T fr):=by
 have hlt:=(uO.1 h).1
 unfold sortWorld
 rw [sH (by rw [size_putRow];exact hlt)]
 unfold putRow mapBlock
 rw [Array.getElem?_modify,cU rfl]
 show Option.map _ (w.heap[b]?)=_
 rw [h];rfl
theorem wS [Inhabited α]{enc:α→Value}{d:Array α}{c:Array Value}(h:d.size≤c.size):(putCells enc 0 d c).toList.take d.size=d.toList.map enc:=by
 apply List.ext_getElem?
 intro k
 by_cases hk:k<d.size
 ·rw [wL hk]
  have hc:k<c.size:=by omega
  simp [putCells,hc,hk]
 ·rw [Dh (by simp;omega),Dh (by simp;omega)]
section
theorem AW{m:Nat}{l:Option Nat}(hl:m=n)(s:Nat)(hs:look G s=some (tV (aC l cap n)))(k:RG E ops Q rest O ((s,tV (aC l cap m))::G)):RG E ops Q rest O G:=by
 subst hl
 exact fun a w S st=>k a w S ⟨st.ext,st.sat,st.own,⟨st.facts.size,st.facts.defers,fun j t h=>by
  unfold look at h
  by_cases hb:Nat.beq s j=true
  ·rw [hb]at h
   have:=q8 hb
   subst this
   have e:tV (aC l cap m)=t:=by simpa using h
   rw [←e];exact st.facts.at_ s _ hs
  ·rw [rs]at hb
   rw [hb]at h
   exact st.facts.at_ j t h⟩⟩
end

def JQ{α:Type}(cmp:α×α→Option Int)(x y:α):Bool:=
 match cmp (x,y)with
 |some c=>decide (c<0)
 |none=>false
def Kj{α:Type}(lt:α→α→Bool)(x:α):List α→List α
 |[]=>[x]
 |y::ys=>if lt y x then y::Kj lt x ys else x::y::ys
def HJ{α:Type}(lt:α→α→Bool):List α→List α
 |[]=>[]
 |x::xs=>Kj lt x (HJ lt xs)
structure Good{α:Type}(cmp:α×α→Option Int)(xs:List α):Prop where
 len:xs.length≤1099511627776
 tot: ∀x∈xs,∀y∈xs,(cmp (x,y)).isSome=true
 irr: ∀x∈xs,JQ cmp x x=false
 tr: ∀x∈xs,∀y∈xs,∀z∈xs,JQ cmp x y=true→JQ cmp y z=true→JQ cmp x z=true
 anti: ∀x∈xs,∀y∈xs,JQ cmp x y=false→JQ cmp y x=false→x=y
def sortI(xs:List Int):List Int:=xs.mergeSort fun x y=>decide (x≤y)
theorem xl(xs:List Int):(sortI xs).length=xs.length:=by unfold sortI;simp
def yC(xs:List Int):Option (List Int):=if xs.length≤68719476736 then some (sortI xs)else none
theorem zV{xs ys:List Int}(h:yC xs=some ys):xs.length≤68719476736∧ys=sortI xs:=by
 unfold yC at h
 split at h
 ·exact⟨by assumption,by simpa using h.symm⟩
 ·cases h


theorem CA{k:IntKind}{S:SH}: ∀{xs:List Int} {cs:List Value},oj (rI k) S cs xs→cs=xs.map (Value.int k)
 |[],cs,h=>by rw [show cs=[]from h];rfl
 |x::xs,cs,⟨a,b,e,h1,h2⟩=>by
  rw [e,show a=[.int k x]from h1,CA h2]
  rfl
theorem CM{k:IntKind}{S:SH}: ∀xs:List Int,oj (rI k) S (xs.map (Value.int k)) xs
 |[]=>rfl
 |x::xs=>⟨[.int k x],_,rfl,rfl,CM xs⟩
theorem Dw{ρ:Ren}(L:Lays.n189 P ρ){l:Option Nat}{xs:List Int}(hlen0:xs.length≤68719476736)(hs:eM w S)(h:(ee (rI .i64) T l cap xs).p w S):
  Calls P (ρ.f 189) #[aC l cap xs.length] w fun e w' =>e= .returned (.tuple #[])∧dQ (fun k=>l=some k) w S w' S∧eM w' S∧(ee (rI .i64) T l cap (sortI xs)).p w' S:=by
 cases l with
 |none=>
  have hx:xs=[]:=th (by obtain⟨_,h4,_⟩:=h;exact h4.1)
  subst hx
  exact(Any.slices_Sort_int_none (P:=P) (ρ:=ρ) L none 0 w).mono fun _ _ ⟨h1,h2⟩=>by subst h2;exact⟨h1,dE _ _ _,hs,by simpa [sortI] using h⟩
 |some b=>
  obtain⟨cells0,⟨cur,hb,hle,hmax,hcs,hct⟩,hrc,hno0⟩:=h
  have hno:S b=none:=hno0 b rfl
  subst hct
  have h1:(rI .i64).sz=1:=rfl
  rw [h1,Nat.mul_one]at hcs hrc
  have hcells:=CA hrc
  have hH:Holds (Value.int .i64) w b 0 xs.toArray:=by
   intro j hj
   have hj' :j<xs.length:=by simpa using hj
   have hc:cur[j]? =some (Value.int .i64 xs.toArray[j]!):=by
    have:(cur.toList.take xs.length)[j]? =some (Value.int .i64 xs.toArray[j]!):=by
     rw [hcells,Dc,getElem!_pos xs.toArray j hj]
     simp [hj']
    rw [wL (by omega)]at this
    simpa using this
   refine⟨by simp [World.cell?,hb,hc],?_⟩
   simp [World.frozen?,hb]
  have hblk:=(uO.1 hb).1
  have hcall:=calls_of_every_depth fun D=>AnyS.slices_Sort_int_alone (P:=P) (ρ:=ρ) L D b 0 cap xs w hH hblk (by omega)
  refine hcall.mono fun e w' ⟨he,n,os,hw⟩=>?_
  have hlen:=xl xs
  have hw2:w' =sortWorld (Value.int .i64) w b 0 n (sortI xs).toArray os:=hw
  subst hw2
  refine⟨he,⟨rfl,rfl,rfl,Nat.le_add_right _ _,?_,fun k hk hkb=>sG hk (fun e=>hkb (by rw [e])),SH.le_refl _,fun _ _ _=>rfl⟩,hs.same fun k o hk=>?_,⟨_,⟨_,y5 hb,by omega,hmax,?_,rfl⟩,?_,hno0⟩⟩
  ·unfold sortWorld;rw [size_grow,size_putRow];exact Nat.le_add_right _ _
  ·have hkb:k≠b:=fun e=>by subst e;rw [hno]at hk;cases hk
   exact sG (hs.lt hk) hkb
  ·simp [putCells,h1,hcs]
  ·have e1:(sortI xs).length*(rI .i64).sz=(sortI xs).toArray.size:=by rw [h1];simp
   rw [e1,wS (by simp;omega)]
   exact CM (sortI xs)
section
theorem FY{ρ:Ren}(L:Lays.n189 E.P ρ){f:FuncId}(hf:ρ.f 189=f)(hc:al E.P f=true){l:Option Nat}{xs ys:List Int}{ats:Array TypeId}(hy:yC xs=some ys)(hx:aG E.N G x (tV (aC l cap n)))(hn:n=xs.length)(hd:Nat.blt d E.N.n=true)(k:ys.length=n→RG E ops Q rest (ee (rI .i64) T l cap ys::O) ((d,sj)::G)):RG E ops Q (⟨some d,.call ⟨.value (.func f),#[x],ats⟩,ty,pos,after,none⟩::rest) (ee (rI .i64) T l cap xs::O) G:= .of rfl fun a w S st=>by
 obtain⟨hl0,rfl⟩:=zV hy
 subst hf
 subst hn
 have h1:a.eval x=aC l cap xs.length:=hx S a st.facts
 have hr:(execOp a.eval ⟨some d,.call ⟨.value (.func (ρ.f 189)),#[x],ats⟩,ty,pos,after,none⟩).run E.P w= .ok (.enter (ρ.f 189) #[aC l cap xs.length]) w:=by
  have e0:a.eval (.func (ρ.f 189))= .func (.func (ρ.f 189)) #[] #[]:=rfl
  simp [execOp,resolve,e0,h1,Deferred.ofValue,invoke,dL hc]
 refine⟨fun c h=>(by cases h),?_⟩
 rw [hr]
 refine(Dw L hl0 st.sat st.own.1.1).mono fun e w' ⟨he,hext,hsat,hp⟩=>⟨_,he,?_⟩
 have hfp: ∀g∈O,∀b,g.fp b→ ¬(l=some b):=fun g hg b hb hl=>st.own.2.1 g hg b hl hb
 refine k (xl xs) _ _ S ⟨st.ext.step hext (fun c hc=>st.own.1.2 c hc),hsat,⟨⟨hp,st.own.1.2⟩,st.own.2.1,st.own.2.2.ext hext hfp⟩,?_⟩;exact(st.facts.mono hext.keep).put hd trivial
end
open Go.Lib

theorem kM(hle: ∀(b:Nat) (o:Obj),W.heap[b]? =some o→ ∃o',w.heap[b]? =some o' ∧wT o o'){b:Nat}(h:W.cell? ⟨b,i,none⟩=some v):w.cell? ⟨b,i,none⟩=some v:=by
 unfold World.cell? at h ⊢
 cases hb:W.heap[b]? with
 |none=>simp [hb]at h
 |some o=>
  obtain⟨o',h1,h2⟩:=hle b o hb
  simp only [hb]at h
  simp only [h1]
  cases o with
  |cells c T fr=>
   obtain⟨l,rfl⟩:=h2
   simp only [Option.isSome_none,De,ta]at h ⊢
   rw [←Cr]at h ⊢
   rw [wM (md.1 h).1]
   exact h
  |_=>simp at h
theorem A6{g:Nat}{T:Array CaseRow}(hle: ∀(b:Nat) (o:Obj),W.heap[b]? =some o→ ∃o',w.heap[b]? =some o' ∧wT o o')(h:CaseVar g T W):CaseVar g T w:=by
 obtain⟨R,oR,cap,h1,h2⟩:=h
 exact⟨R,oR,cap,kM hle h1,fun i hi=>⟨kM hle (h2 i hi).1,kM hle (h2 i hi).2.1,kM hle (h2 i hi).2.2.1,kM hle (h2 i hi).2.2.2.1,kM hle (h2 i hi).2.2.2.2⟩⟩
theorem zr{g3 g4:Nat}(hle: ∀(b:Nat) (o:Obj),W.heap[b]? =some o→ ∃o',w.heap[b]? =some o' ∧wT o o')(h:Utf8Tabs g3 g4 W):Utf8Tabs g3 g4 w:=
 ⟨fun c hc=>kM hle (h.1 c hc),fun i hi=>⟨kM hle (h.2 i hi).1,kM hle (h.2 i hi).2⟩⟩
end Go.Proofs.YtnmjbolollcokaaGreatDoor

