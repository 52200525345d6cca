/- cT of this claim: W16, W17, W18, W19, W20, W22, W23, W24, W25, W26, W28, W30, W31, W32. -/
import Derived.Test.YtfhhakidodmdfaaGreatDoorJeV1
import Derived.RangeFuncRecord
import Derived.RangeFuncLeaves
import Derived.Laws.StructEq
import Derived.Lib.ConvBytes
import Derived.Lib.AppendZeros
import Derived.Laws.MakeOwn
import Derived.MapKept
import Derived.Scope
import Derived.ChangeKeysEq
set_option linter.all false
namespace Go.Proofs.YtfhhakidodmdfaaGreatDoor
open Go

def nu(L:List Oper):Nat→Nat→Nat→Bool
 |0,_,_=>false
 |n+1,i,j=>match L[i]? with
  |some o=>o.after.toList.any fun e=>Region.binds .any e&&(Nat.beq e.on j||nu L n e.on j)
  |none=>false
def vW(L:List Oper)(m:Nat):Bool:=(List.range m).all fun j=>nu L L.length m j
def yW(L:List Oper)(n k:Nat):Bool:=(List.range k).all fun m=>vW L (n+m)&&(match L[n+m]? with|some o=>eD (n+m) o&&o.guard.isNone|none=>false)
variable{L:List Oper}{done:Array Bool}{e:TypeId}{hi:Int}{i:Nat}{j:Int}{n:Nat}{o:Oper}
theorem ge{L:List Oper}{done:Array Bool}(down: ∀j o,L[j]? =some o→done.getD j false=true→ ∀e∈o.after,Region.binds .any e=true→done.getD e.on false=true):
  ∀(n i j:Nat),(∀o,L[i]? =some o→ ∀e∈o.after,Region.binds .any e=true→done.getD e.on false=true)→nu L n i j=true→done.getD j false=true
 |0,_,_,_,h=>by cases h
 |n+1,i,j,hi,h=>by
  unfold nu at h
  cases ho:L[i]? with
  |none=>rw [ho]at h;cases h
  |some o=>
   rw [ho]at h
   obtain⟨e,he0,hb⟩:=sC.1 h
   have he:e∈o.after:=by simpa using he0
   rw [lX,p9]at hb
   have hd:=hi o ho e he hb.1
   rcases hb.2 with h1|h1
   ·rw [←oD h1];exact hd
   ·exact ge down n e.on j (fun p hp=>down e.on p hp hd) h1
variable{E:En}{G:mg}{O:List OE}{S S' :SH}{a:Act}{d:Nat}{k:IntKind}{l:Option Nat}{t:TypeId}{ts:List Ty}{γ:Type}{u:Rp γ}{w w' :World}
theorem DJ.stepT{l:List Oper}(h:DJ E O G l ts done a w S){t:Ty}{v:Value}(hi:l[i]? =some o)(hd:o.dst=some d)(hdN:d<E.N.n)(hs2: ∀j p,l[j]? =some p→done.getD j false=true→p.dst=some d→i=j)(hwait: ∀e∈o.after,Region.binds .any e=true→done.getD e.on false=true)(ht:ts[i]? =some t)(hun:done.getD i true=false)(hext:fY py w S w' S')(hsat:jp w' S')(hv:t.p S' v):DJ E O G l ts (done.setIfInBounds i true) (a.put o.dst v) w' S' :=by
 have hda:d<a.tmps.size:=by rw [h.size];exact hdN
 have hlt:i<done.size:=by rw [h.dsz];exact(jL.1 hi).1
 have hset: ∀j,(done.setIfInBounds i true).getD j false=true→j=i∨done.getD j false=true:=fun j hj=>by
  by_cases hij:i=j
  ·exact .inl hij.symm
  ·rw [uI false hij]at hj;exact .inr hj
 have hseti:(done.setIfInBounds i true).getD i false=true:=by simp [hlt]
 have hun' :done.getD i false=false:=by simp [hlt]at hun ⊢;exact hun
 refine⟨h.ext.step0 hext,hsat,h.own.ext0 hext,?_,?_,by simp [h.dsz],fun j p hj hdone e he hb=>?_,fun k u hk hno=>?_,fun j p d' u hj hdone hd' hu=>?_⟩
 ·rw [hd];simp [Act.put,h.size]
 ·rw [hd];exact h.defers
 ·rcases hset j hdone with rfl|hj'
  ·rw [hi]at hj
   have:o=p:=by simpa using hj
   subst this
   exact vt (hwait e he hb)
  ·exact vt (h.down j p hj hj' e he hb)
 ·have hne:d≠k:=fun e=>hno i o hi hseti (by rw [hd,e])
  rw [hd,qP hda,aM hne]
  exact u.mono hext.keep (h.old k u hk fun j p hj hdone=>hno j p hj (vt hdone))
 ·rw [hd,qP hda]
  rcases hset j hdone with rfl|hj'
  ·rw [hi]at hj
   have:o=p:=by simpa using hj
   subst this
   rw [hd]at hd'
   have:d=d' :=by simpa using hd'
   subst this
   rw [aX rfl]
   rw [ht]at hu
   have:t=u:=by simpa using hu
   subst this
   exact hv
  ·have hne:d≠d' :=fun e=>by
    subst e
    have:=hs2 j p hj hj' hd'
    subst this
    rw [hj']at hun';cases hun'
   rw [aM hne]
   exact u.mono hext.keep (h.new j p d' u hj hj' hd' hu)
theorem om(h:i<done.size):done.getD i true=done.getD i false:=by simp [h]
theorem tM(h:lc done=0)(hi:i<done.size):done.getD i false=true:=by
 unfold lc at h
 rw [List.countP_eq_zero]at h
 have h2:done[i]∈done.toList:=by simp
 have:=h _ h2
 rw [←om hi]
 simpa [hi] using this
variable{P:Program}{Q:Exit→Act→World→Prop}{α:Type}{f:FuncId}{β:Type}{m:Nat}{q:Rp β}{r:Rp α}{rest:List Oper}{xs:List α}
theorem zn{r:Option Nat}(hc: ∀m o,n≤m→L[m]? =some o→vW L m=true)(hedge: ∀m o,L[m]? =some o→eD m o=true):
  ∀(rest:List Oper) (m:Nat) (done:Array Bool) (fuel:Nat) (a:Act) (w:World),n≤m→L.drop m=rest→done.size=L.length→(∀j,j<L.length→(done.getD j false=true↔j<m))→lc done=fuel→
   wpListIn (fw r) 0 P L.toArray Q rest a w→wpAnyIn (fw r) 0 P .any L.toArray Q fuel done a w:=by
 intro rest
 induction rest with
 |nil=>
  intro m done fuel a w hnm hdrop hsz hdone hu h
  have hlen:L.length≤m:=FJ.1 hdrop
  have hr:Region.ready .any L.toArray done=[]:=by
   cases hr:Region.ready .any L.toArray done with
   |nil=>rfl
   |cons i r=>
    have hm:i∈Region.ready .any L.toArray done:=by rw [hr];exact kE ..
    obtain⟨hun,o,ho,_⟩:=sD.1 hm
    have hi:i<L.length:=by simpa using (vx.1 ho).1
    have:=(hdone i hi).2 (by omega)
    rw [om (by omega)]at hun
    rw [hun]at this;cases this
  cases fuel with
  |zero=>exact⟨hr,h⟩
  |succ f=>exact⟨fun _=>h,fun i hi=>by rw [hr]at hi;cases hi⟩
 |cons o rest ih=>
  intro m done fuel a w hnm hdrop hsz hdone hu h
  have hm:m<L.length:=by
   rcases mS m L.length with h' |h'
   ·exact h'
   ·rw [FJ.2 h']at hdrop;cases hdrop
  have hLm:L[m]? =some o:=by
   have:=wM (xs:=L) (i:=m) (j:=0)
   rw [hdrop]at this
   simpa using this.symm
  have hmu:done.getD m true=false:=by
   have hnot: ¬(done.getD m false=true):=fun h2=>by have:=(hdone m hm).1 h2;omega
   rw [om (by omega)]
   exact zl _▸hnot
  have honly: ∀i∈Region.ready .any L.toArray done,i=m:=by
   intro i hi
   obtain⟨hun,p,hp,hwait⟩:=sD.1 hi
   have hp' :L[i]? =some p:=by simpa using hp
   have hil:i<L.length:=(jL.1 hp').1
   have hid: ¬i<m:=fun hlt=>by
    have h2:=(hdone i hil).2 hlt
    rw [om (by omega)]at hun
    rw [hun]at h2;cases h2
   rcases mS m i with hlt|hge
   ·exfalso
    have hcov:=hc i p (by omega) hp'
    unfold vW at hcov
    have hre:=jx.1 hcov m (by simpa using hlt)
    have:done.getD m false=true:=by
     refine ge (L:=L) (done:=done) (fun j q hj hjd e he hb=>?_) _ i m (fun q hq e he hb=>?_) hre
     ·have hjl:j<L.length:=(jL.1 hj).1
      have hjm:=(hdone j hjl).1 hjd
      have:=hedge j q hj
      unfold eD at this
      have:=jx.1 this e (by simpa using he)
      simp only [hb,mi,rE,wt]at this
      exact(hdone e.on (by omega)).2 (by omega)
     ·have:q=p:=by rw [hp']at hq;simpa using hq.symm
      subst this
      exact hwait e he hb
    have:=(hdone m hm).1 this
    omega
   ·omega
  have hready:m∈Region.ready .any L.toArray done:=by
   rw [sD]
   refine⟨hmu,o,by simpa using hLm,fun e he hb=>?_⟩
   have:=hedge m o hLm
   unfold eD at this
   have:=jx.1 this e (by simpa using he)
   simp only [hb,mi,rE,wt]at this
   exact(hdone e.on (by omega)).2 this
  cases fuel with
  |zero=>
   have:=tM hu (i:=m) (by omega)
   have:=(hdone m hm).1 this
   omega
  |succ fuel=>
   refine⟨fun hr=>(by rw [hr]at hready;cases hready),fun i hi=>?_⟩
   have:=honly i hi
   subst this
   have hnext:=fun a w=>ih (i+1) (done.setIfInBounds i true) fuel a w (by omega) (by rw [←pD,hdrop];rfl) (by simpa using hsz) (fun j hj=>by
    by_cases hij:i=j
    ·subst hij;have:i<done.size:=by omega
     simp [this]
    ·rw [uI false hij,hdone j hj];omega) (by have:=qh hmu;omega)
   unfold wpOpIn
   have hLm' :L.toArray[i]? =some o:=by simpa using hLm
   rw [hLm']
   show if _ then _ else _
   unfold wpListIn at h
   by_cases hw:Region.wanted o (yielded L.toArray a.tmps)=true
   ·rw [aX hw]at h ⊢;exact Oper.wpIn_mono (fun a w hk=>hnext a w hk) h
   ·rw [aM hw]at h ⊢;exact⟨h.1,hnext _ _ h.2⟩
theorem Jf{l t:List Oper}(hsl:vE E.N.n [] l=true)(hlen:ts.length=l.length)(hd:DR E O G (l++t) ts 0 l)(ht:yW (l++t) l.length t.length=true)(hQ: ∀a w S,St E O (Mm l ts G) a w S→wpListIn (fw E.r) 0 E.P (l++t).toArray Q t a w):
  ∀(fuel:Nat) (done:Array Bool) (a:Act) (w:World) (S:SH),lc done=fuel→(∀j,l.length≤j→done.getD j false=false)→DJ E O G (l++t) ts done a w S→wpAnyIn (fw E.r) 0 E.P .any (l++t).toArray Q fuel done a w:=by
 have hL1: ∀i o,i<l.length→(l++t)[i]? =some o→l[i]? =some o:=fun i o hi h=>by rwa [Af hi]at h
 have hL2: ∀i o,l[i]? =some o→(l++t)[i]? =some o:=fun i o h=>by rw [Af (jL.1 h).1];exact h
 have htail: ∀m o,l.length≤m→(l++t)[m]? =some o→vW (l++t) m=true∧eD m o=true:=fun m o hm ho=>by
  have hml:m<(l++t).length:=(jL.1 ho).1
  rw [iF]at hml
  unfold yW at ht
  have:=jx.1 ht (m-l.length) (by simp;omega)
  rw [show l.length+(m-l.length)=m from by omega,ho]at this
  simp only [lX]at this
  exact⟨this.1,this.2.1⟩
 have hedge: ∀i o,(l++t)[i]? =some o→eD i o=true:=fun i o hi=>by
  rcases mS i l.length with h|h
  ·obtain⟨_,_,_,_,_,h,_⟩:=DR.get l 0 hd i o (hL1 i o h hi)
   simpa using h
  ·exact(htail i o h hi).2
 obtain⟨hs1,hs2⟩:=w8 l [] hsl
 have fin: ∀fuel done a w S,lc done=fuel→(∀j,l.length≤j→done.getD j false=false)→DJ E O G (l++t) ts done a w S→(∀i,i<l.length→done.getD i false=true)→wpAnyIn (fw E.r) 0 E.P .any (l++t).toArray Q fuel done a w:=by
  intro fuel done a w S hu hfree h hall
  refine zn (n:=l.length) (fun m o hm ho=>(htail m o hm ho).1) hedge t l.length done fuel a w (dn _) (by simp) h.dsz (fun j hj=>⟨fun hjd=>?_,fun hlt=>hall j hlt⟩) hu
   (hQ a w S ⟨h.ext,h.sat,h.own,h.size,h.defers,fun j u hj=>?_⟩)
  ·rcases mS j l.length with h' |h'
   ·exact h'
   ·rw [hfree j h']at hjd;cases hjd
  ·rcases GN l ts j u (fun o ho e=>by obtain⟨d,hd,_⟩:=hs1 o ho;rw [hd]at e;cases e) hlen hj with⟨i,o,h1,h2,h3⟩|⟨h1,h2⟩
   ·exact h.new i o j u (hL2 i o h1) (hall i (jL.1 h1).1) h2 h3
   ·refine h.old j u h1 fun i o ho hdn=>?_
    rcases mS i l.length with h' |h'
    ·exact h2 o (qU (hL1 i o h' ho))
    ·rw [hfree i h']at hdn;cases hdn
 have lower: ∀done a w S i,(∀j,l.length≤j→done.getD j false=false)→DJ E O G (l++t) ts done a w S→i∈Region.ready .any (l++t).toArray done→l.length≤i→ ∀j,j<l.length→done.getD j false=true:=by
  intro done a w S i hfree h hi hge j hj
  obtain⟨hun,p,hp,hwait⟩:=sD.1 hi
  have hp' :(l++t)[i]? =some p:=by simpa using hp
  have hcov:=(htail i p hge hp').1
  unfold vW at hcov
  have hre:=jx.1 hcov j (by simp;omega)
  exact ge h.down _ i j (fun q hq e he hb=>by
   have:q=p:=by rw [hp']at hq;simpa using hq.symm
   subst this
   exact hwait e he hb) hre
 intro fuel
 induction fuel with
 |zero=>
  intro done a w S hu hfree h
  exact fin 0 done a w S hu hfree h fun i hi=>tM hu (by rw [h.dsz,iF];omega)
 |succ fuel ih=>
  intro done a w S hu hfree h
  by_cases hall: ∀i,i<l.length→done.getD i false=true
  ·exact fin _ done a w S hu hfree h hall
  have hready0: ∀m i,i<m→i<l.length→Region.ready .any (l++t).toArray done=[]→done.getD i false=true:=by
   intro m
   induction m with
   |zero=>intro i h;omega
   |succ m ihm=>
    intro i him hil hr
    have his:i<done.size:=by rw [h.dsz,iF];omega
    by_cases hdn:done.getD i true=true
    ·rw [←om his];exact hdn
    ·exfalso
     obtain⟨o,ho⟩: ∃o,(l++t)[i]? =some o:=⟨l[i],hL2 i _ (ox hil)⟩
     have hmem:i∈Region.ready .any (l++t).toArray done:=by
      rw [sD]
      refine⟨by simpa using hdn,o,by simpa using ho,fun e he hb=>?_⟩
      have:=hedge i o ho
      unfold eD at this
      have:=jx.1 this e (by simpa using he)
      simp only [hb,mi,rE,wt]at this
      exact ihm e.on (by omega) (by omega) hr
     rw [hr]at hmem;cases hmem
  refine⟨fun hr=>absurd (fun i hi=>hready0 (i+1) i (by omega) hi hr) hall,fun i hi=>?_⟩
  have hil:i<l.length:=by
   rcases mS i l.length with h' |h'
   ·exact h'
   ·exact absurd (lower done a w S i hfree h hi h') hall
  obtain⟨hun,o,ho,hwait⟩:=sD.1 hi
  have ho' :(l++t)[i]? =some o:=by simpa using ho
  have hol:=hL1 i o hil ho'
  obtain⟨needs,u,h1,h2,h3,_,h5⟩:=DR.get l 0 hd i o hol
  rw [uo]at h1 h3
  have hF:=h.need ho' hun hwait h2 h3
  have h6:=h5 a w S h.sat h.own hF
  have hu' :lc (done.setIfInBounds i true)=fuel:=by have:=qh hun;omega
  obtain⟨d,hdd,hdN,_⟩:=hs1 o (qU hol)
  have huq: ∀j p,(l++t)[j]? =some p→done.getD j false=true→p.dst=some d→i=j:=fun j p hj hjd hpd=>by
   rcases mS j l.length with h' |h'
   ·exact hs2 i j o p hol (hL1 j p h' hj) (by rw [hdd,hpd])
   ·rw [hfree j h']at hjd;cases hjd
  have hfree' : ∀j,l.length≤j→(done.setIfInBounds i true).getD j false=false:=fun j hj=>by
   rw [uI false (by omega)];exact hfree j hj
  unfold wpOpIn
  rw [ho]
  show if _ then _ else _
  by_cases hw:Region.wanted o (yielded (l++t).toArray a.tmps)=true
  ·rw [aX hw]at h6 ⊢
   refine kQ (fun a' w' ⟨v,S',ha,he,hs,hv⟩=>?_) h6
   subst ha
   exact ih _ _ _ S' hu' hfree' (h.stepT ho' hdd hdN huq hwait h1 hun he hs hv)
  ·rw [aM hw]at h6 ⊢
   exact⟨fun _ _=>trivial,ih _ _ _ S hu' hfree' (h.stepT ho' hdd hdN huq hwait h1 hun (fY.refl _ _ _) h.sat h6)⟩
theorem SR{id:Nat}{l t:List Oper}(hL:L=l++t)(hm:E.P.follows .mixedOrders=true)(hsl:vE E.N.n [] l=true)(hlen:ts.length=l.length)(ht:yW L l.length t.length=true)(hd:DR E O G L ts 0 l)(k:RG E L.toArray Q t O (Mm l ts G)):CG E Q (.region id L.toArray true) O G:=fun a w S st=>by
 subst hL
 refine wpIn_region_any hm ?_
 obtain⟨he,hs⟩:=xL (w:=w) st.sat
 refine Jf hsl hlen hd ht (fun a w S st=>k a w S st) _ _ _ _ S ?_ (fun j _=>?_)
  ⟨st.ext.step0 he,hs,st.own.ext0 he,st.facts.size,st.facts.defers,by simp,fun j o hj hdone=>?_,fun k t hk _=>st.facts.at_ k t hk,fun j o d t hj hdone=>?_⟩
 ·unfold lc;rw [Nt,Nr];simp
 ·simp [zm];split<;>rfl
 ·simp [zm]at hdone
  split at hdone<;>simp at hdone
 ·simp [zm]at hdone
  split at hdone<;>simp at hdone

abbrev It(α:Type):=(σ:Type)→(α→σ→Option (Bool×σ))→σ→Option σ

def qd(Se:SH)(O:List OE):OE where
 fp:=fun k=> ∃f∈O,f.fp k
 p:=fun w S=>SH.le Se S∧cM 0 py w S O
 here:=fun⟨_,h⟩ _ ⟨f,hf,hk⟩=>f.here (cM.mem h f hf).1 _ hk
 kept:=fun⟨h1,h2⟩ k hC=>⟨SH.le_trans h1 k.keep,h2.ext k fun f hf b hb=>hC b ⟨f,hf,hb⟩⟩
variable{B:Nat→Prop}{base:Nat}
theorem cM.weak: ∀{O:List OE},cM base B w S O→cM 0 py w S O
 |[],_=>trivial
 |_::_,⟨h1,h2,h3⟩=>⟨⟨h1.1,fun _ _=> .inl (lw _)⟩,h2,cM.weak h3⟩
theorem j6: ∀{O:List OE},cM 0 py w S O→(∀f∈O,∀k,f.fp k→base≤k∨B k)→cM base B w S O
 |[],_,_=>trivial
 |_::_,⟨h1,h2,h3⟩,h=>⟨⟨h1.1,h _ (kE ..)⟩,h2,j6 h3 fun f hf=>h f (ky _ hf)⟩
def vL(l:Nat)(r:Loop)(st:LoopState):OE where
 fp:=fun k=>k=l
 p:=fun w S=>S l=none∧w.heap[l]? =some (.loop {r with state:=st,pending:=none})
 here:=by
  intro w S h k hk
  subst hk
  exact(vx.1 h.2).1
 kept:=by
  intro C w w' S S' h k hC
  have hlt:=(vx.1 h.2).1
  exact⟨by rw [k.old l hlt (hC l rfl)];exact h.1,by rw [k.heap l hlt (hC l rfl)];exact h.2⟩
def Ba(b:Nat):OE where
 fp:=fun k=>k=b
 p:=fun w S=>S b=none∧w.heap[b]? =some (.deferred (some []))
 here:=by
  intro w S h k hk
  subst hk
  exact(vx.1 h.2).1
 kept:=by
  intro C w w' S S' h k hC
  have hlt:=(vx.1 h.2).1
  exact⟨by rw [k.old b hlt (hC b rfl)];exact h.1,by rw [k.heap b hlt (hC b rfl)];exact h.2⟩
def xp(b:Nat):Deferred:={target:= .collected b,args:= #[]}

def YI(P:Program){α σ:Type}(args:α→List Ty)(y:α→σ→Option (Bool×σ))(I:σ→OE→Prop)(yv:Value):Prop:=
 ∃l,yv= .func (.yield l) #[] #[]∧ ∀x s r,y x s=some r→ ∀e,I s e→ ∀w S vs,jp w S→e.p w S→wD S (args x) vs→
  ∃f tmps assign body,(Instr.yield l vs.toArray).run P w= .ok (.round l f tmps assign body) w∧
   RoundIn (fw none) 0 P l f tmps assign body w fun en w' => ∃e' S',en= .returned (.bool r.1)∧I r.2 e' ∧fY e.fp w S w' S' ∧jp w' S' ∧e'.p w' S' ∧ ∀k,e'.fp k→e.fp k∨w.heap.size≤k
def SL(P:Program){α:Type}(args:α→List Ty)(it:It α)(fid:FuncId)(cap:Array Value)(fp:Nat→Prop)(w:World)(S:SH):Prop:=
 ∀(σ:Type) (y:α→σ→Option (Bool×σ)) (s s' :σ),it σ y s=some s' → ∀I yv,YI P args y I yv→ ∀e,I s e→e.p w S→(∀k,e.fp k→ ¬fp k)→
  Calls P fid (#[yv]++cap) w fun en w' => ∃e' S',(∃v,en= .returned v)∧I s' e' ∧fY (fun k=>e.fp k∨fp k) w S w' S' ∧jp w' S' ∧e'.p w' S' ∧ ∀k,e'.fp k→e.fp k∨w.heap.size≤k
def We(P:Program){α:Type}(args:α→List Ty)(it:It α)(v:Value)(fp:Nat→Prop):OE where
 fp:=fp
 p:=fun w S=>(∀k,fp k→k<w.heap.size)∧ ∃fid cap,v= .func (.func fid) #[] cap∧aj P fid=true∧
  ∀C w' S',fY C w S w' S' →(∀k,fp k→ ¬C k)→jp w' S' →SL P args it fid cap fp w' S'
 here:=fun h k hk=>h.1 k hk
 kept:=by
  rintro C w w' S S' ⟨h1,fid,cap,h2,h3,h4⟩ k hC
  refine⟨fun b hb=>wL (h1 b hb) k.size,fid,cap,h2,h3,fun C' w'' S'' k' hC' hs=>?_⟩;exact h4 (fun b=>C b∨C' b) w'' S'' ((k.more fun b hb=> .inl hb).trans (k'.more fun b hb=> .inr hb)) (fun b hb h=>h.elim (hC b hb) (hC' b hb)) hs

def zZ(P:Program)(fid:FuncId){α:Type}(args:α→List Ty)(it:It α)(O:List OE)(cts:List Ty):Prop:=
 ∀w S cap,jp w S→cM 0 py w S O→wD S cts cap→SL P args it fid cap.toArray (fun k=> ∃f∈O,f.fp k) w S
def Yq(E:En){σ:Type}(I:σ→OE→Prop)(s:σ)(e0:OE):Ending→World→Prop:=fun en w' => ∃e' S',(∃v,en= .returned v)∧I s e' ∧fY E.B E.w0 E.S0 w' S' ∧jp w' S' ∧e'.p w' S' ∧ ∀k,e'.fp k→e0.fp k∨E.w0.heap.size≤k
variable{σ:Type}{I:σ→OE→Prop}{N:Nat}{S0:SH}{args:α→List Ty}{b:Nat}{c:Code}{cap:Nat}{cts:List Ty}{fn:Func}{it:It α}{s:σ}{w0:World}{y:α}
theorem zZ.of(hf:P.funcs[f]? =some fn)(hb:fn.body=some c)(hN:fn.ntmps=N)(hn:Nat.ble (cts.length+1) N=true)(h: ∀(σ:Type) (y:α→σ→Option (Bool×σ)) (s s' :σ),it σ y s=some s' → ∀I yv,YI P args y I yv→ ∀e,I s e→ ∀w0 S0 B,(∀k,B k→e.fp k∨ ∃f∈O,f.fp k)→
   CG ⟨P,⟨N,[]⟩,B,w0,S0,none⟩ (bodyPost P fn (Yq ⟨P,⟨N,[]⟩,B,w0,S0,none⟩ I s' e)) c (e::O) (s7 0 (tV yv::cts))):zZ P f args it O cts:=by
 subst hN
 intro w S cap hs ho hc σ y s s' hit I yv hy e he hep hap
 have hown:cM w.heap.size (fun k=>e.fp k∨ ∃f∈O,f.fp k) w S (e::O):=
  ⟨⟨hep,fun k hk=> .inr (.inl hk)⟩,fun f hf b hb hfb=>hap b hb ⟨f,hf,hfb⟩,j6 ho fun f hf k hk=> .inr (.inr ⟨f,hf,hk⟩)⟩
 have hfacts:=mF (S:=S) (ts:=tV yv::cts) (vs:=yv::cap) ⟨rfl,hc⟩ fn.ntmps (by simpa using oT hn)
 have:=jB.1 (DB (F:=fw none) (n:=0) hf hb trivial (h σ y s s' hit I yv hy e he w S (fun k=>e.fp k∨ ∃f∈O,f.fp k) (fun _ h=>h) _ w S ⟨fY.refl _ _ _,hs,hown,hfacts⟩))
 rw [show(#[yv]++cap.toArray:Array Value)=(yv::cap).toArray from by simp]
 exact this.mono fun en w' ⟨e',S',h1,h2,h3,h4,h5,h6⟩=>⟨e',S',h1,h2,h3,h4,h5,h6⟩
variable{after:Array Edge}{ats:Array TypeId}{ops:Array Oper}{pos:String}{x:Operand}
section
variable{ty:TypeId}
theorem Q0{e e' :OE}{O:List OE}(h:cM base B w S (e::O))(k:fY e.fp w S w' S')(hp:e'.p w' S')(hn: ∀b,e'.fp b→e.fp b∨w.heap.size≤b)(hb:base≤w.heap.size):cM base B w' S' (e' ::O):=
 ⟨⟨hp,fun b hb' =>(hn b hb').elim (fun h2=>h.1.2 b h2) (fun h2=> .inl (by omega))⟩,fun f hf b hb' hfb=>(hn b hb').elim (fun h2=>h.2.1 f hf b h2 hfb) (fun h2=>by
  have:=f.here (cM.mem h.2.2 f hf).1 b hfb
  omega),h.2.2.ext k fun f hf b hb' h2=>h.2.1 f hf b h2 hb'⟩
theorem Fn{y:α→σ→Option (Bool×σ)}{yv:Value}{x:α}{r:Bool×σ}{e:OE}{fo:Operand}{xs:List Operand}(hy:YI E.P args y I yv)(he:I s e)(hq:y x s=some r)(hf:aH E.N G fo (tV yv))(hx:jC E.N G xs (args x))(hd:Nat.blt d E.N.n=true)(k: ∀e',I r.2 e' →RG E ops Q rest (e' ::O) ((d,tD rB r.1)::G)):RG E ops Q (⟨some d,.call ⟨.value fo,xs.toArray,ats⟩,ty,pos,after,none⟩::rest) (e::O) G:= .of rfl fun a w S st=>by
 obtain⟨l,rfl,hyl⟩:=hy
 have h1:a.eval fo= .func (.yield l) #[] #[]:=hf S a st.facts
 obtain⟨f,tmps,assign,body,h2,h3⟩:=hyl x s r hq e he w S _ st.sat st.own.1.1 (hx.tys st.facts)
 have hr:(execOp a.eval ⟨some d,.call ⟨.value fo,xs.toArray,ats⟩,ty,pos,after,none⟩).run E.P w= .ok (.round l f tmps assign body) w:=by
  simp [execOp,resolve,h1,Deferred.ofValue,invoke]
  simpa using h2
 refine⟨fun c h=>(by cases h),?_⟩
 rw [hr]
 refine h3.mono fun en w' ⟨e',S',h4,h5,h6,h7,h8,h9⟩=>⟨_,h4,?_⟩;exact k e' h5 _ _ S' ⟨st.ext.step h6 (fun b hb=>st.own.1.2 b hb),h7,Q0 st.own h6 h8 h9 st.base_le,(st.facts.mono h6.keep).put hd (iE.2 rfl)⟩
end
def GV:List OE→List OE→Prop
 |[],_=>True
 |f::O,g::O' =>(∀k,f.fp k→g.fp k)∧GV O O'
 |_::_,[]=>False
variable{g:Option (Nat×Bool)}
theorem GV.mem: ∀{O O' :List OE},GV O O' → ∀k,(∃f∈O,f.fp k)→ ∃f∈O',f.fp k
 |f::O,g::O',⟨h1,h2⟩,k,⟨q,hq,hk⟩=>by
  rcases fh.1 hq with e|e
  ·subst e;exact⟨g,kE ..,h1 k hk⟩
  ·obtain⟨q',h3,h4⟩:=GV.mem h2 k ⟨q,e,hk⟩
   exact⟨q',ky _ h3,h4⟩
theorem IW{e0 e:OE}{O0:List OE}(hr:fn.results= #[])(he:I s e)(hB: ∀k,B k→e0.fp k∨ ∃f∈O0,f.fp k)(hO:GV O0 O):
  AT ⟨P,⟨N,[]⟩,B,w0,S0,none⟩ (bodyPost P fn (Yq ⟨P,⟨N,[]⟩,B,w0,S0,none⟩ I s e0)) .ret (e::O) G:=fun _ _ S st=>
 ⟨st.facts.defers,_,uS P fn hr _ _,e,S,⟨_,rfl⟩,he,st.ext,st.sat,st.own.1.1,fun k hk=>(st.own.1.2 k hk).elim .inr fun hb=>(hB k hb).elim .inl fun hx=>let⟨f,hf,hfk⟩:=hO.mem k hx;absurd hfk (st.own.2.1 f hf k hk)⟩
theorem Lw{e0 e:OE}{O0:List OE}(hr:fn.results= #[])(he:I s e)(hB: ∀k,B k→e0.fp k∨ ∃f∈O0,f.fp k)(hO:GV O0 O):
  AT ⟨P,⟨N,[]⟩,B,w0,S0,none⟩ (bodyPost P fn (Yq ⟨P,⟨N,[]⟩,B,w0,S0,none⟩ I s e0)) .normal (e::O) G:=fun a w S st=>IW hr he hB hO a w S st

variable{O1:List OE}{ι:Type}{O2:ι→List OE}
theorem np: ∀{O1 O2:List OE},cM base B w S (O1++O2)→cM base B w S O1∧cM base B w S O2∧ ∀e∈O1,∀f∈O2,e.apart f
 |[],_,h=>⟨trivial,h,fun _ h=>(by cases h)⟩
 |e::O1,O2,⟨h1,h2,h3⟩=>by
  obtain⟨k1,k2,k3⟩:=np h3
  refine⟨⟨h1,fun f hf=>h2 f (Gm _ hf),k1⟩,k2,fun g hg f hf=>?_⟩
  rcases fh.1 hg with rfl|hg
  ·exact h2 f (List.mem_append_right _ hf)
  ·exact k3 g hg f hf
theorem cM.cons{e:OE}(h1:e.holds base B w S)(h2: ∀f∈O,e.apart f)(h3:cM base B w S O):cM base B w S (e::O):=⟨h1,h2,h3⟩

def zR(P:Program)(f:FuncId)(ts:List Ty){α:Type}(args:α→List Ty)(it:It α):Prop:=
 ∀w S vs,jp w S→wD S ts vs→Calls P f vs.toArray w fun e w' => ∃v fp S',e= .returned v∧fY py w S w' S' ∧jp w' S' ∧(We P args it v fp).holds w.heap.size py w' S'
def Wm(E:En){α:Type}(args:α→List Ty)(it:It α):Ending→World→Prop:=fun e w' => ∃v fp S',e= .returned v∧fY E.B E.w0 E.S0 w' S' ∧jp w' S' ∧(We E.P args it v fp).holds E.w0.heap.size E.B w' S'
theorem zR.of(hf:P.funcs[f]? =some fn)(hb:fn.body=some c)(hN:fn.ntmps=N)(hn:Nat.ble ts.length N=true)(h: ∀w0 S0,CG ⟨P,⟨N,[]⟩,py,w0,S0,none⟩ (bodyPost P fn (Wm ⟨P,⟨N,[]⟩,py,w0,S0,none⟩ args it)) c [] (s7 0 ts)):zR P f ts args it:=by
 subst hN
 intro w S vs hs hv
 exact jB.1 (DB (F:=fw none) (n:=0) hf hb trivial (h w S _ w S ⟨fY.refl _ _ _,hs,trivial,mF hv _ (oT hn)⟩))
section
theorem Lu{k:Nat}{v:Value}{fp:Nat→Prop}(hr:fn.results= #[.tmp k])(hk:di G k=some (tV v)):
  AT ⟨P,⟨N,[]⟩,B,w0,S0,none⟩ (bodyPost P fn (Wm ⟨P,⟨N,[]⟩,B,w0,S0,none⟩ args it)) .ret (We P args it v fp::O) G:=fun a w S st=>by
 have hv:a.tmps.getD k undef=v:=st.facts.at_ k _ hk
 exact⟨st.facts.defers,_,mT P fn k hr _ _,v,fp,S,by rw [hv],st.ext,st.sat,st.own.1⟩
section
variable{ty:TypeId}
theorem Hg{xs:List Operand}(hc:aj E.P f=true)(hs:zR E.P f ts args it)(hx:jC E.N G xs ts)(hd:Nat.blt d E.N.n=true)(k: ∀v fp,RG E ops Q rest (We E.P args it v fp::O) ((d,tV v)::G)):
  RG E ops Q (⟨some d,.call ⟨.value (.func f),xs.toArray,ats⟩,ty,pos,after,none⟩::rest) O G:= .of rfl fun a w S st=>by
 have hr:(execOp a.eval ⟨some d,.call ⟨.value (.func f),xs.toArray,ats⟩,ty,pos,after,none⟩).run E.P w= .ok (.enter f (xs.map a.eval).toArray) w:=by
  simp [execOp,resolve,Act.eval,Deferred.ofValue,invoke,ed hc]
 refine⟨fun c h=>(by cases h),?_⟩
 rw [hr]
 refine(hs w S _ st.sat (hx.tys st.facts)).mono fun e w' ⟨v,fp,S',he,h1,h2,h3⟩=>⟨_,he,?_⟩;exact k v fp _ _ S' ⟨st.ext.step0 h1,h2,pO st.own h1 h3.1 (fun b hb=>(h3.2 b hb).resolve_right id) st.base_le,(st.facts.mono h1.keep).put hd rfl⟩
theorem CV{fid:FuncId}{O2:List OE}{caps:List Operand}(hO:O=O1++O2)(hc:aj E.P fid=true)(hs:zZ E.P fid args it O1 cts)(hcap:jC E.N G caps cts)(hd:Nat.blt d E.N.n=true)(k: ∀v fp,RG E ops Q rest (We E.P args it v fp::O2) ((d,tV v)::G)):
  RG E ops Q (⟨some d,.makeFunc (.func fid) #[] caps.toArray,ty,pos,after,none⟩::rest) O G:= .of rfl fun a w S st=>by
 subst hO
 have hr:(execOp a.eval ⟨some d,.makeFunc (.func fid) #[] caps.toArray,ty,pos,after,none⟩).run E.P w= .ok (.value (.func (.func fid) #[] (caps.map a.eval).toArray)) w:=by simp [execOp,Instr.makeFunc]
 refine⟨fun c h=>(by cases h),?_⟩
 rw [hr]
 obtain⟨h1,h2,h3⟩:=np st.own
 have hcv:=hcap.tys st.facts
 refine k (.func (.func fid) #[] (caps.map a.eval).toArray) (fun k=> ∃f∈O1,f.fp k) _ _ S ⟨st.ext,st.sat,?_,st.facts.put hd rfl⟩;refine cM.cons ⟨⟨fun b ⟨f,hf,hb⟩=>f.here (cM.mem h1 f hf).1 b hb,fid,_,rfl,hc,fun C w' S' he hC hs' =>?_⟩,fun b ⟨f,hf,hb⟩=>(cM.mem h1 f hf).2 b hb⟩ (fun f hf b ⟨g,hg,hb⟩=>h3 g hg f hf b hb) h2;exact hs w' S' _ hs' (h1.weak.ext he fun f hf b hb=>hC b ⟨f,hf,hb⟩) (hcv.mono he.keep)
end
end

def GG:List Nat→List Ty→mg→mg
 |d::ds,t::ts,G=>GG ds ts ((d,t)::G)
 |_,_,G=>G
theorem zM{N:Fr}{S:SH}: ∀(ds:List Nat) (ts:List Ty) (vs:List Value) (a:Act) (G:mg),ds.length=ts.length→wD S ts vs→(ds.all fun d=>Nat.blt d N.n)=true→cT N S a G→
  cT N S {tmps:=(ds.zip vs).foldl (fun t (p:Nat×Value)=>t.setIfInBounds p.1 p.2) a.tmps,defers:=a.defers} (GG ds ts G)
 |[],_,_,_,_,hl,_,_,hF=>by
  cases tI hl.symm
  simpa [GG] using hF
 |d::ds,[],_,_,_,hl,_,_,_=>by simp at hl
 |d::ds,t::ts,[],_,_,_,hv,_,_=>hv.elim
 |d::ds,t::ts,v::vs,a,G,hl,⟨h1,h2⟩,hd,hF=>by
  simp only [yB,lX]at hd
  have:=zM ds ts vs (a.put (some d) v) ((d,t)::G) (by simpa using hl) h2 hd.2 (hF.put hd.1 h1)
  simpa [GG,Act.put] using this
def Xp(E:En)(l:Nat)(rec:Loop){σ ι:Type}(Oi:ι→List OE)(dat:ι→σ)(s2:σ):Ending→World→Prop:=fun en w' =>
 ∃i S',en= .returned (.bool true)∧dat i=s2∧fY E.B E.w0 E.S0 w' S' ∧jp w' S' ∧cM E.base E.B w' S' (vL l rec .ready::Oi i)
def VG(E:En)(l:Nat)(body:Code)(R:Ending→World→Prop):Exit→Act→World→Prop:=
 Exit.then (fun a₁ w₁=> ∃w₂,(Instr.beginRound l).run E.P w₁= .ok () w₂∧body.wpIn (fw E.r) 0 E.P (roundPost E.P l R) a₁ w₂) (fun _ _ _=>False)
variable{rec:Loop}{x1 x2 x3:OE}
section
theorem H5{l:Nat}{st st' :LoopState}{O:List OE}(h:cM base B w S (vL l rec st::O))(hs:jp w S):
  fY (fun k=>k=l) w S (w.putObj l (.loop {rec with state:=st',pending:=none})) S∧jp (w.putObj l (.loop {rec with state:=st',pending:=none})) S∧cM base B (w.putObj l (.loop {rec with state:=st',pending:=none})) S (vL l rec st' ::O):=by
 obtain⟨hno,hl⟩:=h.1.1
 have hlt:=(vx.1 hl).1
 have hext:fY (fun k=>k=l) w S (w.putObj l (.loop {rec with state:=st',pending:=none})) S:=⟨rfl,rfl,rfl,dn _,by simp,fun k _ hk=>World.putObj_heap_other hk,SH.le_refl _,fun _ _ _=>rfl⟩
 refine⟨hext,hs.same fun k o hk=>?_,⟨⟨hno,World.putObj_heap_same hlt⟩,h.1.2⟩,h.2.1,h.2.2.ext hext fun g hg k hk hkl=>h.2.1 g hg k hkl hk⟩
 have hne:k≠l:=fun e=>by subst e;rw [hno]at hk;cases hk
 exact World.putObj_heap_other hne
theorem ST{l:Nat}{body:Code}{R:Ending→World→Prop}(h:CG E (roundPost E.P l R) body (vL l rec .busy::O) G):AT E (VG E l body R) .normal (vL l rec .ready::O) G:=fun a w S st=>by
 obtain⟨h1,h2,h3⟩:=H5 (st' := .busy) st.own st.sat
 obtain⟨_,hl⟩:=st.own.1.1
 exact⟨_,run_beginRound hl rfl,h a _ S ⟨st.ext.step h1 (fun c hc=>st.own.1.2 c hc),h2,h3,st.facts⟩⟩
theorem Lx{l:Nat}{Oi:ι→List OE}{dat:ι→σ}{s2:σ}(i:ι)(hi:dat i=s2)(hO:O=Oi i):AT E (roundPost E.P l (Xp E l rec Oi dat s2)) .normal (vL l rec .busy::O) G:=fun a w S st=>by
 subst hO
 obtain⟨h1,h2,h3⟩:=H5 (st' := .ready) st.own st.sat
 obtain⟨_,hl⟩:=st.own.1.1
 exact⟨_,_,run_endRound none hl,i,S,rfl,hi,st.ext.step h1 (fun c hc=>st.own.1.2 c hc),h2,h3⟩
theorem wn{ps:Array Nat}{vs:List Value}{tmps:Array Value}:(ps.zip vs.toArray).foldl (fun t (p,v)=>t.setIfInBounds p v) tmps=(ps.toList.zip vs).foldl (fun t (p:Nat×Value)=>t.setIfInBounds p.1 p.2) tmps:=by
 rw [←Array.foldl_toList]
 simp
def CS{α σ:Type}(f:α→σ→Option σ):α→σ→Option (Bool×σ):=fun x s=>(f x s).map fun s' =>(true,s')
theorem Ql{v:Value}{fp:Nat→Prop}(Oi:ι→List OE)(dat:ι→σ){f:α→σ→Option σ}{s' :σ}{g:Operand}{ps:List Nat}{assign body:Code}(hr:E.r=none)(hg:aH E.N G g (tV v))(i0:ι)(hO:O=We E.P args it v fp::Oi i0)(hit:it σ (CS f) (dat i0)=some s')(hps: ∀x,ps.length=(args x).length)(hpn:(ps.all fun d=>Nat.blt d E.N.n)=true)(hbody: ∀(i:ι) (x:α) (s2:σ),f x (dat i)=some s2→ ∀(l:Nat) (rec:Loop) (w1:World) (S1:SH) (B1:Nat→Prop),
   CG ⟨E.P,⟨E.N.n,[]⟩,B1,w1,S1,some l⟩ (VG ⟨E.P,⟨E.N.n,[]⟩,B1,w1,S1,some l⟩ l body (Xp ⟨E.P,⟨E.N.n,[]⟩,B1,w1,S1,some l⟩ l rec Oi dat s2)) assign (vL l rec .ready::Oi i) (GG ps (args x) G))(k: ∀i',dat i' =s' → ∀b,AT ⟨E.P,⟨E.N.n,xp b::E.N.ds⟩,E.B,E.w0,E.S0,E.r⟩ Q .normal (Ba b::Oi i') G):CG E Q (.rangeFunc g ps.toArray assign body) O G:=fun a w S st=>by
 subst hO
 refine wpIn_rangeFunc fun fn _=>?_
 have hr0:(fw E.r).round=none:=hr
 have hfw:fw E.r=fw none:=by rw [hr]
 rw [hr0]
 obtain⟨rec,hrec⟩: ∃rec:Loop,rec={state:= .ready,pending:=none,fn,tmps:=a.tmps,params:=ps.toArray,assign,body,defers:=w.heap.size}:=⟨_,rfl⟩
 obtain⟨x1,x2,x3⟩:=fX (w:=w) (.deferred (some [])) st.sat
 obtain⟨y1,y2,y3⟩:=fX (w:=w.alloc (.deferred (some []))) (.loop rec) x2
 obtain⟨W1,hW1⟩: ∃W1,(w.alloc (.deferred (some []))).alloc (.loop rec)=W1:=⟨_,rfl⟩
 rw [hW1]at y1 y2
 have hsz:(w.alloc (.deferred (some []))).heap.size=w.heap.size+1:=by simp
 rw [hsz]at y3
 have hext:fY py w S W1 S:=x1.trans y1
 have hL1:W1.heap[w.heap.size+1]? =some (.loop rec):=by
  rw [←hW1];have:=World.alloc_heap_new (w.alloc (.deferred (some []))) (.loop rec);rwa [hsz]at this
 have hK1:W1.heap[w.heap.size]? =some (.deferred (some [])):=by
  rw [y1.heap w.heap.size (by omega) (fun h=>h)];exact World.alloc_heap_new w _
 have hW1s:W1.heap.size=w.heap.size+2:=by rw [←hW1];simp
 have hg' :a.eval g=v:=hg S a st.facts
 obtain⟨hit1,hap,hoi⟩:=st.own
 obtain⟨⟨hfp,gf,cap,hv,hcal,hcall⟩,hbase⟩:=hit1
 have hbl:=st.base_le
 have hoi1:cM E.base E.B W1 S (Oi i0):=hoi.ext0 hext
 have hlt: ∀f∈Oi i0,∀k,f.fp k→k<w.heap.size:=fun f hf k hk=>f.here (cM.mem hoi f hf).1 k hk
 refine⟨w.heap.size+1,[xp w.heap.size],W1,{target:= .fn (.func gf) cap,args:= #[.func (.yield (w.heap.size+1)) #[] #[]]},W1,gf,
  #[.func (.yield (w.heap.size+1)) #[] #[]]++cap,W1,?_,?_,fun _ _=>trivial,?_,fun h=>(by cases h),?_⟩
 ·rw [←hW1,hrec];exact run_enterLoop_outer _ _ _ _ _
 ·simp only [resolve,hg',hv]
  simp [go_sem]
 ·simp [invoke,go_sem,ed hcal]
 rw [hfw]
 refine jB.2 ?_
 have hyld:YI E.P args (CS f) (fun s e=> ∃i,dat i=s∧e=qd S (vL (w.heap.size+1) rec .ready::Oi i)) (.func (.yield (w.heap.size+1)) #[] #[]):=by
  refine⟨_,rfl,?_⟩
  rintro x s r hy e ⟨i,rfl,rfl⟩ w2 S2 vs hs2 ⟨hle,hown⟩ hvs
  obtain⟨s2,hs2',rfl⟩: ∃s2,f x (dat i)=some s2∧r=(true,s2):=by
   unfold CS at hy
   cases hf:f x (dat i)with
   |none=>rw [hf]at hy;cases hy
   |some s2=>rw [hf]at hy;exact⟨s2,rfl,by simpa using hy.symm⟩
  have hl2:=hown.1.1.2
  have hvl:=hvs.length
  have hyr:=run_yield (P:=E.P) (args:=vs.toArray) hl2 (by rw [hrec];simp [hps x,hvl])
  refine⟨_,_,_,_,hyr,roundIn_of_wpIn trivial ?_⟩
  have:=hbody i x s2 hs2' (w.heap.size+1) rec w2 S2 (fun k=> ∃f∈vL (w.heap.size+1) rec .ready::Oi i,f.fp k)
   {tmps:=(ps.zip vs).foldl (fun t (p:Nat×Value)=>t.setIfInBounds p.1 p.2) a.tmps,defers:=[]} w2 S2
   ⟨fY.refl _ _ _,hs2,j6 hown fun f hf k hk=> .inr ⟨f,hf,hk⟩,zM ps (args x) vs ⟨a.tmps,[]⟩ G (hps x) hvs hpn ⟨st.facts.size,rfl,fun j t h=>t.mono hle (st.facts.at_ j t h)⟩⟩
  rw [hrec]
  rw [hrec]at this
  rw [wn]
  refine wpIn_mono this ?_
  intro e a3 w3 hp
  cases e with
  |normal=>
   obtain⟨w4,hb4,hp4⟩:=hp
   refine⟨w4,hb4,wpIn_mono hp4 ?_⟩
   have hR: ∀en w',Xp ⟨E.P,⟨E.N.n,[]⟩,fun k=> ∃f∈vL (w.heap.size+1) rec .ready::Oi i,f.fp k,w2,S2,some (w.heap.size+1)⟩ (w.heap.size+1) rec Oi dat s2 en w' →
     ∃e' S',en= .returned (.bool true)∧(∃i',dat i' =s2∧e' =qd S (vL (w.heap.size+1) rec .ready::Oi i'))∧fY (qd S (vL (w.heap.size+1) rec .ready::Oi i)).fp w2 S2 w' S' ∧jp w' S' ∧e'.p w' S' ∧ ∀k,e'.fp k→(qd S (vL (w.heap.size+1) rec .ready::Oi i)).fp k∨w2.heap.size≤k:=by
    rintro en w' ⟨i',S',h1,h2,h3,h4,h5⟩
    exact⟨_,S',h1,⟨i',h2,rfl⟩,h3,h4,⟨SH.le_trans hle h3.keep,h5.weak⟩,fun k ⟨f,hf,hk⟩=>((cM.mem h5 f hf).2 k hk).symm⟩
   rw [hrec]at hR
   intro e5 a5 w5 hp5
   cases e5<;>simp only [roundPost]at hp5 ⊢
   case normal=>obtain⟨v5,w6,h1,h2⟩:=hp5;exact⟨v5,w6,h1,hR _ _ h2⟩
   case ret=>obtain⟨v5,w6,h1,h2⟩:=hp5;exact⟨v5,w6,h1,hR _ _ h2⟩
   case exit=>obtain⟨v5,w6,h1,h2⟩:=hp5;exact⟨v5,w6,h1,hR _ _ h2⟩
   case goto=>obtain⟨v5,w6,h1,h2⟩:=hp5;exact⟨v5,w6,h1,hR _ _ h2⟩
  |_=>exact hp
 have hrecE:W1.heap[w.heap.size+1]? =some (.loop {rec with state:= .ready,pending:=none}):=by rw [hL1,hrec]
 have he0:(qd S (vL (w.heap.size+1) rec .ready::Oi i0)).p W1 S:=⟨SH.le_refl _,⟨⟨y3,hrecE⟩,fun _ _=> .inl (lw _)⟩,fun f hf k hk hfk=>by have:=hlt f hf k hfk;have hk' :k=w.heap.size+1:=hk;omega,hoi1.weak⟩
 have hap0: ∀k,(qd S (vL (w.heap.size+1) rec .ready::Oi i0)).fp k→ ¬fp k:=by
  rintro k ⟨f,hf,hk⟩ hfk
  rcases fh.1 hf with rfl|hf
  ·have:=hfp k hfk;have hk' :k=w.heap.size+1:=hk;omega
  ·exact hap f hf k hfk hk
 refine(hcall py W1 S hext (fun _ _ h=>h) y2 σ (CS f) (dat i0) s' hit _ _ hyld _ ⟨i0,rfl,rfl⟩ he0 hap0).mono ?_
 rintro en w2 ⟨e',S2,⟨vr,rfl⟩,⟨i',hi',rfl⟩,hx2,hs2,⟨hle2,hown2⟩,hnew⟩
 have hl2:=hown2.1.1.2
 refine⟨none,_,run_endLoop hl2 (by simp),?_⟩
 have hb2:cM E.base E.B w2 S2 (vL (w.heap.size+1) rec .ready::Oi i'):=by
  refine j6 hown2 fun f hf k hk=>?_
  rcases hnew k ⟨f,hf,hk⟩with⟨f0,hf0,hk0⟩|h
  ·rcases fh.1 hf0 with rfl|hf0
   ·left;have hk' :k=w.heap.size+1:=hk0;omega
   ·exact(cM.mem hoi f0 hf0).2 k hk0
  ·left;omega
 obtain⟨z1,z2,z3⟩:=H5 (st' := .exhausted) hb2 hs2
 have hdf:(Ba w.heap.size).p W1 S:=⟨x3,hK1⟩
 have hnb: ∀k,(Ba w.heap.size).fp k→ ¬((qd S (vL (w.heap.size+1) rec .ready::Oi i0)).fp k∨fp k):=by
  rintro k hk h
  have hk' :k=w.heap.size:=hk
  subst hk'
  rcases h with⟨f,hf,hfk⟩|h
  ·rcases fh.1 hf with rfl|hf
   ·have hk' :w.heap.size=w.heap.size+1:=hfk;omega
   ·have:=hlt f hf _ hfk;omega
  ·have:=hfp _ h;omega
 have rD:(Ba w.heap.size).p w2 S2:=(Ba w.heap.size).kept hdf hx2 hnb
 have hd3:=(Ba w.heap.size).kept rD z1 (fun k hk hkl=>by have h1:k=w.heap.size:=hk;have h2:k=w.heap.size+1:=hkl;omega)
 have hBin: ∀k,((qd S (vL (w.heap.size+1) rec .ready::Oi i0)).fp k∨fp k)→E.w0.heap.size≤k∨E.B k:=by
  rintro k (⟨f,hf,hk⟩|h)
  ·rcases fh.1 hf with rfl|hf
   ·left;have hk' :k=w.heap.size+1:=hk;have:E.w0.heap.size≤w.heap.size:=hbl;omega
   ·exact(cM.mem hoi f hf).2 k hk
  ·exact hbase k h
 refine k i' hi' w.heap.size _ _ S2 ⟨((st.ext.step0 hext).step hx2 hBin).step z1 (fun c hc=>z3.1.2 c hc),z2,?_,?_⟩
 ·refine cM.cons ⟨hd3,fun k hk=> .inl (by have h1:k=w.heap.size:=hk;rw [h1];exact hbl)⟩ (fun f hf k hk hfk=>?_) z3.2.2
  have h1:k=w.heap.size:=hk
  rcases hnew k ⟨f,ky _ hf,hfk⟩with h2|h2
  ·exact hnb k hk (.inl h2)
  ·omega
 ·refine⟨st.facts.size,?_,fun j t hj=>t.mono (SH.le_trans (SH.le_refl S) hle2) (st.facts.at_ j t hj)⟩
  show xp w.heap.size::a.defers=_
  rw [st.facts.defers]
end

section
variable{R:Ending→World→Prop}{ds:List Deferred}
theorem rl(h:AT ⟨P,⟨N,[]⟩,B,w0,S0,none⟩ (bodyPost P fn R) .ret O G):AT ⟨P,⟨N,[]⟩,B,w0,S0,none⟩ (bodyPostM (fw none) 0 P fn R) .ret O G:=fun a w S st=>by
 obtain⟨h1,v,h2,h3⟩:=h a w S st
 show LeavesInM (fw none) 0 P fn a.tmps R a.defers .returning w
 rw [h1]
 exact⟨v,h2,h3⟩
theorem Bp(h:AT ⟨P,⟨N,ds⟩,B,w0,S0,none⟩ (bodyPostM (fw none) 0 P fn R) .ret O G):AT ⟨P,⟨N,xp b::ds⟩,B,w0,S0,none⟩ (bodyPostM (fw none) 0 P fn R) .ret (Ba b::O) G:=fun a w S st=>by
 show LeavesInM (fw none) 0 P fn a.tmps R a.defers .returning w
 rw [st.facts.defers]
 obtain⟨hno,hb⟩:=st.own.1.1
 have hlt:=(vx.1 hb).1
 have hext:fY (fun k=>k=b) w S (w.putObj b (.deferred none)) S:=⟨rfl,rfl,rfl,dn _,by simp,fun k _ hk=>World.putObj_heap_other hk,SH.le_refl _,fun _ _ _=>rfl⟩
 have hsat:jp (w.putObj b (.deferred none)) S:=st.sat.same fun k o hk=>by
  have hne:k≠b:=fun e=>by subst e;rw [hno]at hk;cases hk
  exact World.putObj_heap_other hne
 have:=h {a with defers:=ds} (w.putObj b (.deferred none)) S ⟨st.ext.step hext (fun c hc=>st.own.1.2 c hc),hsat,st.own.2.2.ext hext (fun g hg k hk hkb=>st.own.2.1 g hg k hkb hk),⟨st.facts.size,rfl,st.facts.at_⟩⟩
 exact⟨by simp,.inl ⟨b,_,rfl,run_takeDeferred hb,this⟩⟩
end
theorem Lc{t:Ty}(hf:P.funcs[f]? =some fn)(hb:fn.body=some c)(hN:fn.ntmps=N)(hn:Nat.ble ts.length N=true)(h: ∀w0 S0,CG ⟨P,⟨N,[]⟩,py,w0,S0,none⟩ (bodyPostM (fw none) 0 P fn (MS ⟨P,⟨N,[]⟩,py,w0,S0,none⟩ t)) c [] (s7 0 ts)):aV P f ts t:=by
 subst hN
 intro w S vs hs hv
 exact jB.1 (callsIn_of_wp_marks (F:=fw none) (n:=0) hf hb trivial (h w S _ w S ⟨fY.refl _ _ _,hs,trivial,mF hv _ (oT hn)⟩))

def rT(t:Ty):Rp Unit where
 sz:=1
 agg:=false
 rc:=fun S cs _=> ∃v,cs=[v]∧v.oneCell' =true∧t.p S v
 mono:=fun h ⟨v,e,k,l⟩=>⟨v,e,k,t.mono h l⟩
 len:=fun⟨_,e,_⟩=>by rw [e];rfl
 one:=fun⟨v,e,k,_⟩ c hc=>by rw [e]at hc;simp at hc;subst hc;exact k
 sc:=fun _=>rfl
theorem tRT{t:Ty}{u:Unit}{v:Value}:(tD (rT t) u).p S v↔v.oneCell' =true∧t.p S v:=by
 constructor
 ·rintro⟨cs,rfl,w,rfl,h1,h2⟩;exact⟨h1,h2⟩
 ·rintro⟨h1,h2⟩;exact⟨[v],rfl,v,rfl,h1,h2⟩
variable{T U:TypeId}{agg:Bool}{bytes:Nat}{dst:Option Tmp}{get:α→β}{k' :IntKind}{lo:Int}{off sz:Nat}{ys:List α}{z:List Value}
section
variable{ty:TypeId}
theorem bQ.imp{t u:Ty}(h:bQ E O G o t)(k: ∀S v,t.p S v→u.p S v):bQ E O G o u:=fun a w S hs ho hf=>
 oj (fun _ _ ⟨v,S',h1,h2,h3,h4⟩=>⟨v,S',h1,h2,h3,k S' v h4⟩) (h a w S hs ho hf)
theorem Di{res:β→Ty}{f:α→Option β}(hx:aH E.N G x (dX E.P args res f)):bQ E O G ⟨dst,.box T x,ty,pos,after,g⟩ (bM (rT (dX E.P args res f)) ()):=
 Ms (fun S a hf=>tRT.2 ⟨by obtain⟨_,_,e,_⟩:=hx S a hf;rw [e];rfl,hx S a hf⟩)
theorem u0{t:Ty}{p:Operand}(ti:TI E.P U 1 bytes false z)(hp:aH E.N G p (bM (rT t) ())):bQ E O G ⟨dst,.load U p,ty,pos,after,g⟩ t:=
 (bO (r:=rT t) (x:=()) ti rfl rfl hp).imp fun _ _ h=>(tRT.1 h).2

theorem Eu:rV.rc S [.slice none 0 0] (aO none 0 0):=⟨rfl,rfl⟩
theorem PE{N:Fr}(h:aH N G x (tV (aO l cap n))):aH N G x (tD rV (aO l cap n)):=fun S a hf=>vC.2 ⟨h S a hf,by cases l<;>rfl⟩
theorem gR{p:Operand}(ti:TI E.P U 1 bytes false z)(hm:bx rV T b (aO l cap n)∈O)(hp:aH E.N G p (tV (aP b 0))):
  bQ E O G ⟨dst,.load U p,ty,pos,after,g⟩ (tV (aO l cap n)):=(ce (q:=rV) (get:=fun x=>x) ti rfl rfl bR hm hp).imp fun _ _ h=>(vC.1 h).1

def dj{α:Type}(xs:List α)(lo hi:Int):Option (List α):=if 0≤lo∧lo≤hi∧hi≤(xs.length:Int)then some ((xs.take hi.toNat).drop lo.toNat)else none
theorem gN(h:dj xs lo hi=some ys): ∃l m:Nat,lo=l∧hi=m∧l≤m∧m≤xs.length∧ys=(xs.take m).drop l:=by
 unfold dj at h
 split at h
 ·rename_i hc
  exact⟨lo.toNat,hi.toNat,by omega,by omega,by omega,by omega,by simpa using h.symm⟩
 ·cases h
theorem D3{a:Option Addr}{l:Nat}(h:Jz r S a xs)(hl:l≤m)(hm:m≤xs.length)(hc:xs.length≤cap):
  Jz r S (if cap=l then a else a.map (·.add (l*r.sz))) ((xs.take m).drop l):=by
 by_cases hlm:l=m
 ·left;subst hlm;simp
 right
 rcases h with h|⟨b,off,c,T,fr,e1,e2,e3⟩
 ·subst h;simp at hm;omega
 subst e1
 have hne: ¬(cap=l):=by omega
 refine⟨b,off+l*r.sz,c,T,fr,?_,e2,?_⟩
 ·rw [aM hne];simp [Addr.add]
 have hlen:((xs.take m).drop l).length=m-l:=by simp;omega
 have e4:xs=(xs.take m).take l++((xs.take m).drop l++xs.drop m):=by
  rw [←jK,uG,uG]
 have h1:((xs.take m).take l).length=l:=by simp;omega
 rw [e4]at e3
 have h2:=(qk e3).2
 have h3:=(qk h2).1
 rw [h1]at h3
 rw [hlen]at h3 ⊢
 rw [←e4]at h3
 rw [Ah,Br,pD]at h3
 have hmin:min ((m-l)*r.sz) (xs.length*r.sz-l*r.sz)=(m-l)*r.sz:=by
  rw [←Nat.sub_mul];exact wQ (Bu _ (by omega))
 rwa [hmin]at h3
theorem lF{n:Int}{y:Nat}{code:BoundsCode}(h0:0≤n)(h1:n≤y):(Instr.sliceBound (.int k n) y code).run P w= .ok n.toNat w:=by
 simp [Instr.sliceBound,asIntOf,h0,h1]
theorem EC{hi:Operand}(ht:E.P.underlying t=some (.slice T))(ti:TI E.P T sz bytes agg z)(hsz:r.sz=sz)(hx:aH E.N G x (tD (fH r) xs))(hhi:aH E.N G hi (tD (rI k') j))(h:dj xs 0 j=some ys):bQ E O G ⟨dst,.slice t x none (some hi) none,ty,pos,after,g⟩ (tD (fH r) ys):=
 .of_pure fun a w S _ _ hf=>by
  subst hsz
  obtain⟨ad,cap,h1,h2,h3,h4⟩:=oM.1 (hx S a hf)
  have h6:=da.1 (hhi S a hf)
  obtain⟨l,m,hl,rfl,h7,h8,rfl⟩:=gN h
  have hl0:l=0:=by omega
  subst hl0
  have hlen:((xs.take m).drop 0).length=m-0:=by simp;omega
  refine⟨.slice (if cap=0 then ad else ad.map (·.add (0*r.sz))) (m-0) (cap-0),?_,oM.2 ⟨_,cap-0,by rw [hlen],by omega,by omega,D3 h4 h7 h8 h2⟩⟩
  simp [execOp,Instr.sliceAt,h1,h6,Instr.slice,lA ht,Instr.sliceBounds,lF (k:=k') (n:=(m:Int)) (y:=cap) (by omega) (by omega),ti.sizeOf]
theorem EB{lo:Operand}{i:Int}(ht:E.P.underlying t=some (.slice T))(ti:TI E.P T sz bytes agg z)(hsz:r.sz=sz)(hx:aH E.N G x (tD (fH r) xs))(hlo:aH E.N G lo (tD (rI k) i))(h:dj xs i (xs.length:Int)=some ys):bQ E O G ⟨dst,.slice t x (some lo) none none,ty,pos,after,g⟩ (tD (fH r) ys):=
 .of_pure fun a w S _ _ hf=>by
  subst hsz
  obtain⟨ad,cap,h1,h2,h3,h4⟩:=oM.1 (hx S a hf)
  have h5:=da.1 (hlo S a hf)
  obtain⟨l,m,rfl,hm,h7,h8,rfl⟩:=gN h
  have hm' :m=xs.length:=by omega
  subst hm'
  have hlen:((xs.take xs.length).drop l).length=xs.length-l:=by simp
  refine⟨.slice (if cap=l then ad else ad.map (·.add (l*r.sz))) (xs.length-l) (cap-l),?_,oM.2 ⟨_,cap-l,by rw [hlen],by omega,by omega,D3 h4 h7 h8 h2⟩⟩
  simp [execOp,Instr.sliceAt,h1,h5,Instr.slice,lA ht,Instr.sliceBounds,lF (k:=k) (n:=(l:Int)) (y:=xs.length) (by omega) (by omega),ti.sizeOf]
end
theorem tF{id:Nat}(m:Nat)(hm:E.P.follows .mixedOrders=true)(hsl:vE E.N.n [] (L.take m)=true)(hlen:ts.length=(L.take m).length)(ht:yW L (L.take m).length (L.drop m).length=true)(hd:DR E O G L ts 0 (L.take m))(k:RG E L.toArray Q (L.drop m) O (Mm (L.take m) ts G)):CG E Q (.region id L.toArray true) O G:=SR (uG m L).symm hm hsl hlen ht hd k

def rk(P:Program){α:Type} [DecidableEq α](t:TypeId)(r:Rp α)(n:Nat):Prop:=
 ∀(S:SH) (cs ds:List Value) (x y:α) (d:Nat) (w:World),r.rc S cs x→r.rc S ds y→(Op.equalIn (d+n) t (r.val cs) (r.val ds)).run P w= .ok (decide (x=y)) w
theorem Dt(h:P.underlying t=some (.int k')):rk P t (rI k) (n+1):=fun S cs ds x y d w hx hy=>by
 have h1:cs=[.int k x]:=hx
 have h2:ds=[.int k y]:=hy
 subst h1 h2
 have:(Op.equalIn (d+n+1) t (.int k x) (.int k y)).run P w= .ok (x==y) w:=by simp [Op.equalIn,lA h]
 have e:(x==y)=decide (x=y):=by by_cases h:x=y<;>simp [h]
 rw [e]at this
 exact this
theorem Vw(h:P.underlying t=some .string):rk P t rS (n+1):=fun S cs ds x y d w hx hy=>by
 have h1:cs=[.string ⟨x.toArray⟩]:=hx
 have h2:ds=[.string ⟨y.toArray⟩]:=hy
 subst h1 h2
 have:=run_equalIn_string (P:=P) w (d+n) t ⟨x.toArray⟩ ⟨y.toArray⟩ h
 simp only [Rp.val,rS,List.headD_cons,fZ,d9]
 rw [show d+(n+1)=d+n+1 from rfl,this]
 simp only [ByteArray.toList_eq]
 by_cases e:x=y<;>simp [e]
abbrev Fd:=TypeId×Nat×Bool
def ME(f:Field):Fd:=(f.type,f.offset,f.name== "_")
def PM(d:Nat)(xs ys:Array Value):List Fd→Sem Bool
 |[]=>pure true
 |f::fs=>
  if f.2.2=false then do
   let a←part f.1 xs f.2.1
   let b←part f.1 ys f.2.1
   let r←Op.equalIn d f.1 a b
   if(!r)=true then pure false else PM d xs ys fs
  else PM d xs ys fs
theorem KQ(d:Nat)(xs ys:Array Value): ∀fs:List Field,Op.eqFields d xs ys fs=PM d xs ys (fs.map ME)
 |[]=>rfl
 |f::fs=>by
  unfold Op.eqFields PM
  rw [KQ d xs ys fs]
  by_cases h:f.name= "_"
  ·have e:((ME f).2.2=false)=False:=by simp [ME,h]
   simp only [wi,e,d9]
   rw [aM (by simpa using h)]
  ·have e:((ME f).2.2=false)=True:=by simp [ME,h]
   simp only [wi,e,eK]
   rw [aX (by simpa using h)]
   rfl
def SO(P:Program){α:Type}(r:Rp α)(n:Nat)(fs:List Fd)(c:α→α→Bool):Prop:=
 ∀(S:SH) (cs ds:List Value) (x y:α) (d:Nat) (w:World),r.rc S cs x→r.rc S ds y→(PM (d+n) cs.toArray ds.toArray fs).run P w= .ok (c x y) w
theorem SO.nil:SO P r n [] (fun _ _=>true):=fun _ _ _ _ _ _ _ _ _=>rfl
theorem rN(ti:TI P t sz bytes agg z)(hsz:q.sz=sz)(hag:q.agg=agg)(hf:pC r off q get){cs:List Value}{x:α}(hx:r.rc S cs x)(w:World):
  (part t cs.toArray off).run P w= .ok (q.val ((cs.drop off).take q.sz)) w:=by
 have h:=hf S cs x hx
 have hl:=q.len h
 subst hsz hag
 unfold part
 by_cases ha:q.agg=true
 ·have e1:=ti.isAgg w
  simp only [wu,e1,ha,yD,eK,ti.sizeOf,Sem.run_pure]
  unfold Rp.val
  rw [aX ha]
  congr 2
  apply Array.ext'
  simp
 ·rw [zl]at ha
  have e1:=ti.isAgg w
  have hs1:=q.sc ha
  simp only [wu,e1,ha,yD,fZ,d9]
  rw [hs1]at hl ⊢
  obtain⟨v,hv⟩:=List.length_eq_one_iff.1 hl
  have hc:cs[off]? =some v:=by
   have:((cs.drop off).take 1)[0]? =some v:=by rw [hv];rfl
   rw [Bv (by omega),wM]at this
   simpa using this
  unfold Rp.val
  rw [hv,ha]
  simp [hc]
theorem SO.cons [DecidableEq β]{t:Nat}{fs:List Fd}{c:α→α→Bool}(ti:TI P t sz bytes agg z)(hsz:q.sz=sz)(hag:q.agg=agg)(hf:pC r off q get)(he:rk P t q n)(hr:SO P r n fs c):
  SO P r n ((t,off,false)::fs) (fun x y=>decide (get x=get y)&&c x y):=fun S cs ds x y d w hx hy=>by
 have h1:=rN ti hsz hag hf hx w
 have h2:=rN ti hsz hag hf hy w
 have h3:=he S _ _ _ _ d w (hf S cs x hx) (hf S ds y hy)
 unfold PM
 simp only [eK,wu,h1,h2,h3,yD]
 by_cases e:get x=get y
 ·simp only [e,Cj,mi,fZ,d9,uE]
  exact hr S cs ds x y d w hx hy
 ·simp [e]
theorem MQ [DecidableEq α]{t:Nat}{fs:List Fd}{c:α→α→Bool}(ht:(P.underlying t).map (fun d=>match d with| .struct l=>(true,l.toList.map ME)|_=>(false,[]))=some (true,fs))(hp:P.stoodInHeld t=false)(ha:r.agg=true)(hr:SO P r n fs c)(hc: ∀x y,c x y=decide (x=y)):rk P t r (n+1):=fun S cs ds x y d w hx hy=>by
 obtain⟨l,h1,h2⟩: ∃l,P.underlying t=some (.struct l)∧l.toList.map ME=fs:=by
  cases hu:P.underlying t with
  |none=>rw [hu]at ht;cases ht
  |some d=>
   rw [hu]at ht
   cases d<;>simp at ht
   exact⟨_,rfl,ht⟩
 have hfo:P.fieldsOf t=l:=by unfold Program.fieldsOf;rw [h1]
 have:=run_equalIn_struct (P:=P) w (d+n) t cs.toArray ds.toArray (by rw [hfo];exact h1) hp
 rw [rJ ha,rJ ha,show d+(n+1)=d+n+1 from rfl,this,hfo,KQ,h2,hr S cs ds x y d w hx hy,hc]
theorem vo [DecidableEq α](h:rk P t r n)(m:Nat):rk P t r (m+n):=fun S cs ds x y d w hx hy=>by
 have:=h S cs ds x y (d+m) w hx hy
 rwa [Nat.add_assoc]at this
theorem WM.of [DecidableEq α](hg:P.eqGuardType P.depth t=false)(h:rk P t r 20):WM P t r:=⟨hg,fun S cs ds x y d w hx hy=>h S cs ds x y d w hx hy⟩

theorem dl{l:List α}{e:α}(h:xs.drop i=e::l):decide ((i:Int)<(xs.length:Int))=true:=by
 have:i<xs.length:=by
  rcases mS i xs.length with h' |h'
  ·exact h'
  ·rw [Ae h']at h;cases h
 simp;omega
theorem du(h:xs.drop i=[]):decide ((i:Int)<(xs.length:Int))=false:=by
 have:=FJ.1 h
 simp;omega
theorem cK{l:List α}{e:α}(h:xs.drop i=e::l):xs.drop (i+1)=l:=by
 rw [←pD,h];rfl
theorem cX{l:List α}{e:α}(h:xs.drop i=e::l):cR xs (i:Int)=some e:=by
 rw [bW]
 have:=wM (xs:=xs) (i:=i) (j:=0)
 rw [h]at this
 simpa using this.symm
theorem cL{l:List α}{e:α}(h:xs.drop i=e::l)(hN:xs.length≤maxLen):i<9223372036854775807:=by
 have:=I6 (dl h)
 simp only [maxLen]at hN
 omega
theorem Zo{k:Nat}(h:N-i=k+1):decide ((i:Int)<(N:Int))=true:=by simp;omega
theorem Zp(h:N-i=0):decide ((i:Int)<(N:Int))=false:=by simp;omega
theorem TK{k:Nat}(h:N-i=k+1):N-(i+1)=k:=by omega
theorem TL{k:Nat}(h:N-i=k+1)(hN:N≤9223372036854775807):i<9223372036854775807:=by omega
theorem TN(h:n≤maxLen):n≤9223372036854775807:=by simp only [maxLen]at h;omega
variable{ix:Operand}{mm:Bool}{zs:List α}
section
variable{e:Exit}
section
variable{ty:TypeId}
theorem AG{one:Operand}{xt yt:TypeId}(hi:i<9223372036854775807)(hx:aH E.N G x (tD (rI .i64) (i:Int)))(h1:aH E.N G one (tD (rI .i64) 1)):
  bQ E O G ⟨dst,.binOp .add xt x one yt,ty,pos,after,g⟩ (tD (rI .i64) ((i+1:Nat):Int)):=by
 have e:IntKind.i64.wrap ((i:Int)+1)=((i+1:Nat):Int):=by
  rw [vu];omega
 have:=nO (E:=E) (O:=O) (dst:=dst) (ty:=ty) (pos:=pos) (after:=after) (g:=g) (xt:=xt) (yt:=yt) hx h1
 rwa [e]at this
end
theorem mR(hm:lY mm r T l cap xs∈O)(h:xs.length≤maxLen→CG E Q c O G):CG E Q c O G:=fun a w S st=>by
 refine h ?_ a w S st
 obtain⟨cells,h1,_⟩:=(st.own.mem _ hm).1
 cases l with
 |none=>have:=h1.1;omega
 |some b=>obtain⟨cur,_,g2,g3,_⟩:=h1;exact yP g2 g3
theorem St.dataAt{k:Nat}(h:St E O G a w S)(hk:di G k=some (tO r l cap xs)):St E O ((k,tD (fH r) xs)::G) a w S:=h.cons (h.facts.at_ k _ hk).2
theorem jw(k:Nat)(hk:di G k=some (tO r l cap xs))(h:AT E Q e O ((k,tD (fH r) xs)::G)):AT E Q e O G:=fun a w S st=>h a w S (st.dataAt hk)
def pz(l:Option Nat)(off:Nat):Value:=
 match l with
 |none=> .pointer none
 |some b=>aP b off
theorem uY(h:B7 mm r T l cap xs w S){e:α}(hi:xs[i]? =some e):
  ∃b cur,l=some b∧w.heap[b]? =some (.cells cur T (0,0))∧xs.length≤cap∧cur.size=cap*r.sz∧r.rc S ((cur.toList.drop (i*r.sz)).take r.sz) e:=by
 obtain⟨cells,h1,h2,_⟩:=h
 have hlt:=(jL.1 hi).1
 cases l with
 |none=>have:=h1.1;omega
 |some b=>
  obtain⟨cur,g1,g2,g3,g4,g5⟩:=h1
  refine⟨b,cur,rfl,g1,g2,g4,?_⟩
  have h3:=Dd h2 hi
  rw [←g5,Ah,Br]at h3
  have h4:i*r.sz+r.sz≤xs.length*r.sz:=by
   rw [←Nat.succ_mul];exact Bu _ hlt
  rwa [wQ (by omega)]at h3
theorem mY{i:Int}{e:α}(h:cR xs i=some e):0≤i∧xs[i.toNat]? =some e:=by
 unfold cR at h
 split at h
 ·exact⟨by assumption,h⟩
 ·cases h
section
variable{ty:TypeId}
theorem cw{e:TypeId}{i:Int}(ht:E.P.underlying t=some (.slice e))(ti:TI E.P e sz bytes agg z)(hm:lY mm r U l cap xs∈O)(hx:aH E.N G x (tV (aO l cap n)))(hi:aH E.N G ix (tD (rI k) i))(hy:cR xs i=some y)(hn:n=xs.length:=by rfl):
  bQ E O G ⟨dst,.indexAddr t x ix,ty,pos,after,g⟩ (tV (pz l (i.toNat*sz+0))):=
 .of_pure fun a w S _ ho hf=>by
  subst hn
  have h1:a.eval x=aO l cap xs.length:=hx S a hf
  have h3:a.eval ix= .int k i:=da.1 (hi S a hf)
  obtain⟨h0,hy'⟩:=mY hy
  obtain⟨b,cur,rfl,_⟩:=uY (ho.mem _ hm).1 hy'
  have hlt:i.toNat<xs.length:=(jL.1 hy').1
  refine⟨_,?_,rfl⟩
  have hc:0≤i∧i<(xs.length:Int):=⟨h0,by omega⟩
  simp [execOp,h1,h3,aO,Instr.indexAt,asIntOf,lA ht,hc,ti.sizeOf,jH,pz,aP]
theorem fR{foff:Nat}{i:Int}{p:Operand}(ti:TI E.P T sz bytes agg z)(hsz:q.sz=sz)(hag:q.agg=agg)(hget:pC r foff q get)(hoff:Nat.ble (foff+q.sz) r.sz=true)(hm:lY mm r U l cap xs∈O)(hy:cR xs i=some y)(hp:aH E.N G p (tV (pz l (i.toNat*r.sz+foff)))):bQ E O G ⟨dst,.load T p,ty,pos,after,g⟩ (tD q (get y)):=
 .of_pure fun a w S _ ho hf=>by
  have h1:a.eval p=pz l (i.toNat*r.sz+foff):=hp S a hf
  obtain⟨h0,hy'⟩:=mY hy
  obtain⟨b,cur,rfl,hb,_,_,h6⟩:=uY (ho.mem _ hm).1 hy'
  have hoff' :=oT hoff
  have h7:=hget S _ _ h6
  rw [Ah,Br,pD,wQ (by omega)]at h7
  refine⟨_,?_,_,rfl,h7⟩
  simp [execOp,h1,pz,aP,Instr.loadAt,Instr.sureAddr,lG ti hb hsz hag h7]
theorem F2{o:Nat}{p:Operand}(hf:cU E.P T i=some (off,sz))(h0:Nat.beq sz 0=false)(hm:lY mm r U l cap xs∈O)(hy:cR xs j=some y)(hp:aH E.N G p (tV (pz l o))):
  bQ E O G ⟨dst,.fieldAddr T p i,ty,pos,after,g⟩ (tV (pz l (o+off))):=
 .of_pure fun a w S _ ho hF=>by
  have h1:a.eval p=pz l o:=hp S a hF
  obtain⟨_,hy'⟩:=mY hy
  obtain⟨b,cur,rfl,_⟩:=uY (ho.mem _ hm).1 hy'
  obtain⟨fs,f,e1,e2,e3,e4⟩:=BF hf
  have h0' :sz≠0:=fun e=>by subst e;simp at h0
  refine⟨_,?_,rfl⟩
  simp [execOp,h1,pz,aP,Instr.fieldAt,lA e1,e2,Instr.sureAddr,fieldPlace,e4,h0',e3,jH]
end
theorem H1{α:Type}{r:Rp α}{S:SH}{y:α}{c:List Value}(hc:r.rc S c y): ∀{xs:List α} {i:Nat} {cs:List Value},ux r S cs xs→i<xs.length→ux r S (cs.take (i*r.sz)++c++cs.drop (i*r.sz+r.sz)) (xs.set i y)
 |[],_,_,_,h=>by simp at h
 |x::xs,0,cs,⟨a,b,e,h1,h2⟩,_=>by
  have hl:=r.len h1
  refine⟨c,b,?_,hc,h2⟩
  rw [e,←hl];simp
 |x::xs,i+1,cs,⟨a,b,e,h1,h2⟩,h=>by
  have hl:=r.len h1
  have ih:=H1 hc h2 (i:=i) (by simpa using h)
  refine⟨a,_,?_,h1,ih⟩
  have e1:(i+1)*r.sz=a.length+i*r.sz:=by rw [hl,um];omega
  rw [e,e1,List.take_length_add_append,Nat.add_assoc,List.drop_length_add_append]
  simp
theorem sw{set:α→β→α}{foff:Nat}{v:β}{i:Int}{p:Operand}{ty:TypeId}(ti:TI E.P T sz bytes agg z)(hsz:q.sz=sz)(hset:jR r foff q set)(hoff:Nat.ble (foff+q.sz) r.sz=true)(hy:cR xs i=some y)(hz:xs.set i.toNat (set y v)=zs)(hp:aH E.N G p (tV (pz l (i.toNat*r.sz+foff))))(hx:aH E.N G x (tD q v))(k:RG E ops Q rest (eH r U l cap zs::O) G):
  RG E ops Q (⟨none,.store T p x,ty,pos,after,none⟩::rest) (eH r U l cap xs::O) G:= .of rfl fun a w S st=>by
 subst hz
 have h1:a.eval p=pz l (i.toNat*r.sz+foff):=hp S a st.facts
 obtain⟨ds,h2,h3⟩:=hx S a st.facts
 obtain⟨h0,hy'⟩:=mY hy
 have hlt:i.toNat<xs.length:=(jL.1 hy').1
 obtain⟨cells,hraw,hrc,hno⟩:=st.own.1.1
 obtain⟨b,cur,rfl,hb,hle,hcs,h6⟩:=uY st.own.1.1 hy'
 obtain⟨cur',hb',hle',hmax,hcs',hct⟩:=hraw
 have hcc:cur' =cur:=by rw [hb]at hb';injection hb' with e;injection e with e1;exact e1.symm
 subst hcc
 have hno' :S b=none:=hno b rfl
 have hoff' :=oT hoff
 have hl3:=q.len h3
 have hmul:i.toNat*r.sz+r.sz≤xs.length*r.sz:=by rw [←Nat.succ_mul];exact Bu _ hlt
 have hmul2:xs.length*r.sz≤cur'.size:=by rw [hcs];exact Bu _ hle
 obtain⟨w',hr,e1,e2,e3,e4,e5,e6⟩:=kJ ti hsz h3 hb (off:=i.toNat*r.sz+foff) (by omega)
 have hrun:(execOp a.eval ⟨none,.store T p x,ty,pos,after,none⟩).run E.P w= .ok .skip w' :=by
  simp [execOp,h1,h2,Instr.storeAt,pz,aP,Instr.sureAddr,hr]
 refine⟨fun c h=>(by cases h),?_⟩
 rw [hrun]
 have hnew:=hset S _ _ _ _ h6 h3
 have hrc' :=H1 hnew hrc hlt
 have hcl:=oO hrc
 have hcells:(cur'.toList.take (i.toNat*r.sz+foff)++ds++cur'.toList.drop (i.toNat*r.sz+foff+q.sz)).take (xs.length*r.sz)=
   cells.take (i.toNat*r.sz)++(((cur'.toList.drop (i.toNat*r.sz)).take r.sz).take foff++ds++((cur'.toList.drop (i.toNat*r.sz)).take r.sz).drop (foff+q.sz))++cells.drop (i.toNat*r.sz+r.sz):=by
  subst hct
  apply I4
  intro j
  simp only [List.getElem?_take,List.getElem?_append,wM,Cn,DE,iF,DF]
  rcases mS j (xs.length*r.sz)with hj|hj
  ·simp only [hj,eK]
   rcases mS j (i.toNat*r.sz)with hj1|hj1
   ·rw [aX (by omega),aX (by omega),aX (by omega),aX (by omega),aX (by omega),aX (by omega)]
   ·rcases mS j (i.toNat*r.sz+foff)with hj2|hj2
    ·rw [aX (by omega),aX (by omega),aX (by omega),aX (by omega),aM (by omega),aX (by omega),aX (by omega),aX (by omega),aX (by omega)]
     congr 1;omega
    ·rcases mS j (i.toNat*r.sz+foff+q.sz)with hj3|hj3
     ·rw [aX (by omega),aM (by omega),aX (by omega),aM (by omega),aX (by omega),aM (by omega)]
      congr 1;omega
     ·rw [aM (by omega)]
      rcases mS j (i.toNat*r.sz+r.sz)with hj4|hj4
      ·rw [aX (by omega),aM (by omega),aM (by omega),aX (by omega)]
       congr 1;omega
      ·rw [aM (by omega),aX (by omega)]
       congr 1;omega
  ·rw [aM (by omega),aM (by omega),aM (by omega)]
 obtain⟨g1,g2,g3⟩:=ql (O:=O) st.sat (eH r U (some b) cap xs) (eH r U (some b) cap (xs.set i.toNat (set y v))) st.own (fun k=>⟨fun h=>(pu h).symm,fun h=>by rw [h];rfl⟩) (fun k=>⟨fun h=>(pu h).symm,fun h=>by rw [h];rfl⟩) ⟨e1,e2,e3,e4.1,e4.2⟩ e6
  ⟨_,⟨_,e5,by rw [List.length_set];exact hle,hmax,by simp only [Gj,iF,Cn,DE,DF];omega,by rw [List.length_set];exact hcells⟩,hrc',fun k hk=>by rw [←pu hk];exact hno'⟩ hno'
 exact k _ _ S ⟨st.ext.step g1 (fun c hc=>st.own.1.2 c (by rw [hc];rfl)),g2,g3,st.facts⟩

def oy(sz:Nat)(l:Option Nat)(cap lo n:Nat):Value:=
 match l with
 |none=> .slice none 0 0
 |some b=> .slice (some ⟨b,if cap=lo then 0 else lo*sz,none⟩) n (cap-lo)
section
variable{ty:TypeId}
theorem GH(h:B7 mm r U l cap xs w S): ∃ad c,aO l cap xs.length= .slice ad xs.length c∧xs.length≤c∧ad=l.map (fun b=>⟨b,0,none⟩)∧(l=none→c=0∧xs=[])∧(l≠none→c=cap):=by
 obtain⟨cells,h1,_⟩:=h
 cases l with
 |none=>
  have hx:xs=[]:=tI h1.1
  subst hx
  exact⟨none,0,rfl,dn _,rfl,fun _=>⟨rfl,rfl⟩,fun h=>absurd rfl h⟩
 |some b=>
  obtain⟨cur,_,g2,_⟩:=h1
  exact⟨_,cap,rfl,g2,rfl,fun h=>(by cases h),fun _=>rfl⟩
theorem kX{hi:Operand}(ht:E.P.underlying t=some (.slice T))(ti:TI E.P T sz bytes agg z)(hsz:r.sz=sz)(hm:lY mm r U l cap xs∈O)(hx:aH E.N G x (tV (aO l cap n)))(hhi:aH E.N G hi (tD (rI k') j))(h:dj xs 0 j=some ys)(hn:n=xs.length:=by rfl):bQ E O G ⟨dst,.slice t x none (some hi) none,ty,pos,after,g⟩ (tV (aO l cap ys.length)):=
 .of_pure fun a w S _ ho hf=>by
  subst hsz
  subst hn
  have h1:a.eval x=aO l cap xs.length:=hx S a hf
  obtain⟨ad,c,h2,h3,h4,h5,h5'⟩:=GH (ho.mem _ hm).1
  have h6:=da.1 (hhi S a hf)
  obtain⟨lo,m,hl,rfl,h7,h8,rfl⟩:=gN h
  have hl0:lo=0:=by omega
  subst hl0
  have hlen:((xs.take m).drop 0).length=m:=by simp;omega
  refine⟨_,?_,rfl⟩
  rw [h2]at h1
  have hr:(execOp a.eval ⟨dst,.slice t x none (some hi) none,ty,pos,after,g⟩).run E.P w= .ok (.value (.slice ad m c)) w:=by
   simp [execOp,Instr.sliceAt,h1,h6,Instr.slice,lA ht,Instr.sliceBounds,lF (k:=k') (n:=(m:Int)) (y:=c) (by omega) (by omega),ti.sizeOf]
   cases ad<;>simp [Addr.add]
  rw [hr,hlen,h4]
  cases l with
  |none=>
   obtain⟨rfl,rfl⟩:=h5 rfl
   have:m=0:=by simpa using h8
   subst this;rfl
  |some b=>rw [h5' (by simp)];rfl
theorem nM{lo:Operand}{i:Int}(ht:E.P.underlying t=some (.slice T))(ti:TI E.P T sz bytes agg z)(hsz:r.sz=sz)(hm:lY mm r U l cap xs∈O)(hx:aH E.N G x (tV (aO l cap n)))(hlo:aH E.N G lo (tD (rI k) i))(h:dj xs i (xs.length:Int)=some ys)(hn:n=xs.length:=by rfl):bQ E O G ⟨dst,.slice t x (some lo) none none,ty,pos,after,g⟩ (tV (oy sz l cap i.toNat ys.length)):=
 .of_pure fun a w S _ ho hf=>by
  subst hsz
  subst hn
  have h1:a.eval x=aO l cap xs.length:=hx S a hf
  obtain⟨ad,c,h2,h3,h4,h5,h5'⟩:=GH (ho.mem _ hm).1
  have h6:=da.1 (hlo S a hf)
  obtain⟨lo',m,rfl,hm',h7,h8,rfl⟩:=gN h
  have hm2:m=xs.length:=by omega
  subst hm2
  have hlen:((xs.take xs.length).drop lo').length=xs.length-lo' :=by simp
  refine⟨_,?_,rfl⟩
  rw [h2]at h1
  have hr:(execOp a.eval ⟨dst,.slice t x (some lo) none none,ty,pos,after,g⟩).run E.P w= .ok (.value (.slice (if c=lo' then ad else ad.map (·.add (lo' *r.sz))) (xs.length-lo') (c-lo'))) w:=by
   simp [execOp,Instr.sliceAt,h1,h6,Instr.slice,lA ht,Instr.sliceBounds,lF (k:=k) (n:=(lo' :Int)) (y:=xs.length) (by omega) (by omega),ti.sizeOf]
  rw [hr,hlen,h4]
  cases l with
  |none=>
   obtain⟨rfl,rfl⟩:=h5 rfl
   have:lo' =0:=by simpa using h7
   subst this;rfl
  |some b=>
   rw [h5' (by simp)]
   unfold oy
   simp only [Ac,Option.map_some,jH,uo]
   split<;>rfl
theorem D2{i:Int}(h:dj xs lo hi=some ys)(hy:cR ys i=some y):cR xs (lo+i)=some y∧0≤lo∧0≤i:=by
 obtain⟨l,m,rfl,rfl,h1,h2,rfl⟩:=gN h
 obtain⟨h0,h3⟩:=mY hy
 refine⟨?_,by omega,h0⟩
 obtain⟨j,rfl⟩: ∃j:Nat,i=j:=⟨i.toNat,by omega⟩
 rw [show((l:Int)+(j:Int))=((l+j:Nat):Int)from by omega,bW]
 rw [wM,Ac]at h3
 have hlt:l+j<m:=by
  have:=(jL.1 h3).1
  simp at this;omega
 rwa [Bv hlt]at h3
theorem F0{e:TypeId}{i:Int}(ht:E.P.underlying t=some (.slice e))(ti:TI E.P e sz bytes agg z)(hsz:r.sz=sz)(hm:lY mm r U l cap xs∈O)(hs:dj xs lo hi=some ys)(hx:aH E.N G x (tV (oy sz l cap lo.toNat ys.length)))(hi' :aH E.N G ix (tD (rI k) i))(hy:cR ys i=some y):
  bQ E O G ⟨dst,.indexAddr t x ix,ty,pos,after,g⟩ (tV (pz l ((lo+i).toNat*sz+0))):=
 .of_pure fun a w S _ ho hf=>by
  subst hsz
  have h1:a.eval x=oy r.sz l cap lo.toNat ys.length:=hx S a hf
  have h3:a.eval ix= .int k i:=da.1 (hi' S a hf)
  obtain⟨hxi,hl0,hi0⟩:=D2 hs hy
  obtain⟨_,hx'⟩:=mY hxi
  obtain⟨b,cur,rfl,_,hle,_⟩:=uY (ho.mem _ hm).1 hx'
  have hlt:i.toNat<ys.length:=(jL.1 (mY hy).2).1
  have hlt2:(lo+i).toNat<xs.length:=(jL.1 hx').1
  have hne: ¬(cap=lo.toNat):=by omega
  refine⟨_,?_,rfl⟩
  have hc:0≤i∧i<(ys.length:Int):=⟨hi0,by omega⟩
  have e1:(lo+i).toNat=lo.toNat+i.toNat:=by omega
  simp [execOp,h1,h3,oy,hne,Instr.indexAt,asIntOf,lA ht,hc,ti.sizeOf,jH,pz,aP,e1,um]
theorem TD{e:TypeId}(ht:E.P.underlying t=some (.slice e))(hm:lY mm r U l cap xs∈O)(hs:dj xs lo hi=some ys)(hx:aH E.N G x (tV (oy sz l cap lo.toNat ys.length))):
  bQ E O G ⟨dst,.call ⟨.builtin .len,#[x],#[t]⟩,ty,pos,after,g⟩ (tD (rI .i64) (ys.length:Int)):=
 .of_pure fun a w S _ ho hf=>by
  have h1:a.eval x=oy sz l cap lo.toNat ys.length:=hx S a hf
  obtain⟨ad,c,h3⟩: ∃ad c,oy sz l cap lo.toNat ys.length= .slice ad ys.length c:=by
   cases l with
   |none=>
    obtain⟨_,h2,_⟩:=(ho.mem _ hm).1
    have hx0:xs=[]:=tI h2.1
    subst hx0
    obtain⟨l',m,_,_,_,h8,rfl⟩:=gN hs
    exact⟨none,0,by simp [oy]⟩
   |some b=>exact⟨_,_,rfl⟩
  refine⟨.int .i64 ys.length,?_,da.2 rfl⟩
  simp [execOp,resolve,invoke,builtin,Builtin.len_,lA ht,h1,h3,goInt]
end
theorem VI(h:dj xs 0 j=some ys)(k:B7 false r U l cap xs w S):B7 false r U l cap ys w S:=by
 obtain⟨lo,m,hl,rfl,h7,h8,rfl⟩:=gN h
 have hl0:lo=0:=by omega
 subst hl0
 obtain⟨cells,h1,h2,h3⟩:=k
 have hlen:((xs.take m).drop 0).length=m:=by simp;omega
 have h4:ux r S (cells.take (m*r.sz)) (xs.take m):=by
  have e:xs=xs.take m++xs.drop m:=(uG _ _).symm
  rw [e]at h2
  have:=(qk h2).1
  rwa [show(xs.take m).length=m from by simp;omega]at this
 refine⟨cells.take (m*r.sz),?_,by simpa using h4,fun b hb=>h3 b hb⟩
 rw [hlen]
 cases l with
 |none=>
  obtain⟨g1,g2⟩:=h1
  exact⟨by omega,by rw [g2];simp⟩
 |some b=>
  obtain⟨cur,g1,g2,g3,g4,g5⟩:=h1
  exact⟨cur,g1,by omega,g3,g4,by rw [←g5,Br,wQ (Bu _ h8)]⟩
theorem St.cut(h:dj xs 0 j=some ys)(st:St E (eH r U l cap xs::O) G a w S):St E (eH r U l cap ys::O) G a w S:=
 st.own_map fun ho=>⟨⟨VI h ho.1.1,ho.1.2⟩,ho.2.1,ho.2.2⟩
theorem we(h:dj xs 0 j=some ys)(k:RG E ops Q rest (eH r U l cap ys::O) G):RG E ops Q rest (eH r U l cap xs::O) G:=fun a w S st=>k a w S (st.cut h)
end

variable{x0 x4 x5 x6 x7 x8 x9:OE}
section
variable{e:Exit}
theorem zX{O:List OE}(h:cM base B w S (x0::x1::x2::x3::x4::x5::O)):cM base B w S (x5::x0::x1::x2::x3::x4::O):=
 (rj h tu (fun f hf=>by simp only [fh]at hf ⊢;rcases hf with h|h|h|h|h|h<;>simp [h])).swap
theorem He(h:RG E ops Q rest (x5::x0::x1::x2::x3::x4::O) G):RG E ops Q rest (x0::x1::x2::x3::x4::x5::O) G:=fun a w S st=>h a w S (st.own_map zX)
theorem Hr(h:AT E Q e (x5::x0::x1::x2::x3::x4::O) G):AT E Q e (x0::x1::x2::x3::x4::x5::O) G:=fun a w S st=>h a w S (st.own_map zX)
theorem tt{O:List OE}(h:cM base B w S (x0::x1::x2::x3::x4::x5::x6::O)):cM base B w S (x6::x0::x1::x2::x3::x4::x5::O):=
 (rj h zX (fun f hf=>by simp only [fh]at hf ⊢;rcases hf with h|h|h|h|h|h|h<;>simp [h])).swap
theorem yu(h:RG E ops Q rest (x6::x0::x1::x2::x3::x4::x5::O) G):RG E ops Q rest (x0::x1::x2::x3::x4::x5::x6::O) G:=fun a w S st=>h a w S (st.own_map tt)
theorem vq(h:AT E Q e (x6::x0::x1::x2::x3::x4::x5::O) G):AT E Q e (x0::x1::x2::x3::x4::x5::x6::O) G:=fun a w S st=>h a w S (st.own_map tt)
theorem Hj(h:LG E Q c (x6::x0::x1::x2::x3::x4::x5::O) G):LG E Q c (x0::x1::x2::x3::x4::x5::x6::O) G:=fun a w S st=>h a w S (st.own_map tt)
theorem tq{O:List OE}(h:cM base B w S (x0::x1::x2::x3::x4::x5::x6::x7::O)):cM base B w S (x7::x0::x1::x2::x3::x4::x5::x6::O):=
 (rj h tt (fun f hf=>by simp only [fh]at hf ⊢;rcases hf with h|h|h|h|h|h|h|h<;>simp [h])).swap
theorem Qd(h:RG E ops Q rest (x7::x0::x1::x2::x3::x4::x5::x6::O) G):RG E ops Q rest (x0::x1::x2::x3::x4::x5::x6::x7::O) G:=fun a w S st=>h a w S (st.own_map tq)
theorem Qq(h:AT E Q e (x7::x0::x1::x2::x3::x4::x5::x6::O) G):AT E Q e (x0::x1::x2::x3::x4::x5::x6::x7::O) G:=fun a w S st=>h a w S (st.own_map tq)
theorem Hi(h:LG E Q c (x7::x0::x1::x2::x3::x4::x5::x6::O) G):LG E Q c (x0::x1::x2::x3::x4::x5::x6::x7::O) G:=fun a w S st=>h a w S (st.own_map tq)
theorem zW{O:List OE}(h:cM base B w S (x0::x1::x2::x3::x4::x5::x6::x7::x8::O)):cM base B w S (x8::x0::x1::x2::x3::x4::x5::x6::x7::O):=
 (rj h tq (fun f hf=>by simp only [fh]at hf ⊢;rcases hf with h|h|h|h|h|h|h|h|h<;>simp [h])).swap
theorem Hq(h:AT E Q e (x8::x0::x1::x2::x3::x4::x5::x6::x7::O) G):AT E Q e (x0::x1::x2::x3::x4::x5::x6::x7::x8::O) G:=fun a w S st=>h a w S (st.own_map zW)
theorem Qg(h:LG E Q c (x8::x0::x1::x2::x3::x4::x5::x6::x7::O) G):LG E Q c (x0::x1::x2::x3::x4::x5::x6::x7::x8::O) G:=fun a w S st=>h a w S (st.own_map zW)
theorem Fs{O:List OE}(h:cM base B w S (x0::x1::x2::x3::x4::x5::x6::x7::x8::x9::O)):cM base B w S (x9::x0::x1::x2::x3::x4::x5::x6::x7::x8::O):=
 (rj h zW (fun f hf=>by simp only [fh]at hf ⊢;rcases hf with h|h|h|h|h|h|h|h|h|h<;>simp [h])).swap
theorem ei(h:AT E Q e (x9::x0::x1::x2::x3::x4::x5::x6::x7::x8::O) G):AT E Q e (x0::x1::x2::x3::x4::x5::x6::x7::x8::x9::O) G:=fun a w S st=>h a w S (st.own_map Fs)
theorem yy(h:LG E Q c (x9::x0::x1::x2::x3::x4::x5::x6::x7::x8::O) G):LG E Q c (x0::x1::x2::x3::x4::x5::x6::x7::x8::x9::O) G:=fun a w S st=>h a w S (st.own_map Fs)
end

theorem mq(h:xs.set i y=zs):zs.length=xs.length:=by rw [←h,List.length_set]
section
theorem iy(hl:m=n)(s:Nat)(hs:di G s=some (tV (aO l cap n)))(k:RG E ops Q rest O ((s,tV (aO l cap m))::G)):RG E ops Q rest O G:=by
 subst hl
 exact fun a w S st=>k a w S (st.cons (st.facts.at_ s _ hs))
end

theorem ve{s:Rp γ}{o1 o2:Nat}{g1:α→β}{g2:β→γ}(h1:pC r o1 q g1)(h2:pC q o2 s g2)(hb:Nat.ble (o2+s.sz) q.sz=true:=by rfl):pC r (o1+o2) s (fun x=>g2 (g1 x)):=fun S cs x h=>by
 have h3:=h2 S _ _ (h1 S cs x h)
 have hb' :=oT hb
 rwa [Ah,Br,pD,wQ (by omega)]at h3
theorem Gz{s:Rp γ}{o1 o2:Nat}{g1:α→β}{u1:α→β→α}{u2:β→γ→β}(h1:pC r o1 q g1)(k1:jR r o1 q u1)(k2:jR q o2 s u2)(hb:Nat.ble (o2+s.sz) q.sz=true:=by rfl)(hc:Nat.ble (o1+q.sz) r.sz=true:=by rfl):
  jR r (o1+o2) s (fun x y=>u1 x (u2 (g1 x) y)):=fun S cs x ds y h hy=>by
 have hb' :=oT hb
 have hc' :=oT hc
 have hl:=r.len h
 have h3:=k1 S cs x _ _ h (k2 S _ _ ds y (h1 S cs x h) hy)
 have e:cs.take (o1+o2)++ds++cs.drop (o1+o2+s.sz)=cs.take o1++(((cs.drop o1).take q.sz).take o2++ds++((cs.drop o1).take q.sz).drop (o2+s.sz))++cs.drop (o1+q.sz):=by
  rw [Br,wQ (by omega),Ah,pD,List.take_add,show o1+(o2+s.sz)=o1+o2+s.sz from by omega]
  simp only [jK]
  congr 3
  have e2:cs.drop (o1+q.sz)=(cs.drop (o1+o2+s.sz)).drop (q.sz-(o2+s.sz)):=by rw [pD];congr 1;omega
  rw [e2,uG]
 rw [e];exact h3

def c0(P:Program)(f:FuncId)(ts:List Ty)(O1:List OE){ι:Type}(t:ι→Ty)(O2:ι→List OE):Prop:=
 ∀w S vs,jp w S→wD S ts vs→cM 0 py w S O1→Calls P f vs.toArray w fun en w' => ∃i v S',en= .returned v∧(t i).p S' v∧fY (fun k=> ∃f∈O1,f.fp k) w S w' S' ∧jp w' S' ∧cM 0 py w' S' (O2 i)∧ ∀k,(∃f∈O2 i,f.fp k)→(∃f∈O1,f.fp k)∨w.heap.size≤k
def R4(E:En)(O1:List OE){ι:Type}(t:ι→Ty)(O2:ι→List OE):Ending→World→Prop:=fun en w' =>
 ∃i v S',en= .returned v∧(t i).p S' v∧fY E.B E.w0 E.S0 w' S' ∧jp w' S' ∧cM 0 py w' S' (O2 i)∧ ∀k,(∃f∈O2 i,f.fp k)→(∃f∈O1,f.fp k)∨E.w0.heap.size≤k
def zJ(O1:List OE):Nat→Prop:=fun k=> ∃f∈O1,f.fp k
theorem c0.of{t:ι→Ty}(hf:P.funcs[f]? =some fn)(hb:fn.body=some c)(hN:fn.ntmps=N)(hn:Nat.ble ts.length N=true)(h: ∀w0 S0,CG ⟨P,⟨N,[]⟩,zJ O1,w0,S0,none⟩ (bodyPost P fn (R4 ⟨P,⟨N,[]⟩,zJ O1,w0,S0,none⟩ O1 t O2)) c O1 (s7 0 ts)):c0 P f ts O1 t O2:=by
 subst hN
 intro w S vs hs hv ho
 exact jB.1 (DB (F:=fw none) (n:=0) hf hb trivial (h w S _ w S ⟨fY.refl _ _ _,hs,j6 ho fun f hf k hk=> .inr ⟨f,hf,hk⟩,mF hv _ (oT hn)⟩))
theorem OC{t:ι→Ty}{v:Value}(st:St E O G a w S)(hB:E.B=zJ O1)(i:ι)(hO:O=O2 i)(hv:(t i).p S v):R4 E O1 t O2 (.returned v) w:=by
 subst hO
 refine⟨i,v,S,rfl,hv,st.ext,st.sat,st.own.weak,fun k ⟨f,hf,hk⟩=>?_⟩
 rcases(cM.mem st.own f hf).2 k hk with h|h
 ·exact .inr h
 ·rw [hB]at h;exact .inl h
section
variable{t:ι→Ty}
theorem m8{k:Nat}{u:Ty}(hr:fn.results= #[.tmp k])(i:ι)(hO:O=O2 i)(hk:di G k=some u)(hu: ∀S v,u.p S v→(t i).p S v):
  AT ⟨P,⟨N,[]⟩,zJ O1,w0,S0,none⟩ (bodyPost P fn (R4 ⟨P,⟨N,[]⟩,zJ O1,w0,S0,none⟩ O1 t O2)) .ret O G:=fun _ _ S st=>
 ⟨st.facts.defers,_,mT P fn k hr _ _,OC st rfl i hO (hu S _ (st.facts.at_ k u hk))⟩
end
theorem Bm: ∀{O1 O2:List OE},cM base B w S O1→cM base B w S O2→(∀e∈O1,∀f∈O2,e.apart f)→cM base B w S (O1++O2)
 |[],_,_,h,_=>h
 |e::O1,O2,⟨h1,h2,h3⟩,h,ha=>⟨h1,fun f hf=>(Aa.1 hf).elim (h2 f) (ha e (kE ..) f),Bm h3 h fun g hg f hf=>ha g (ky _ hg) f hf⟩
section
variable{ty:TypeId}
theorem St.turn{Or O2:List OE}(st:St E (O1++Or) G a w S)(hx:fY (fun k=> ∃f∈O1,f.fp k) w S w' S')(hs:jp w' S')(ho:cM 0 py w' S' O2)(hn: ∀k,(∃f∈O2,f.fp k)→(∃f∈O1,f.fp k)∨w.heap.size≤k):St E (O2++Or) G a w' S' :=by
 obtain⟨h1,h2,h3⟩:=np st.own
 have hbl:=st.base_le
 refine⟨st.ext.step hx (fun b ⟨f,hf,hb⟩=>(cM.mem h1 f hf).2 b hb),hs,Bm (j6 ho fun f hf k hk=>?_) (h2.ext hx fun f hf b hb ⟨g,hg,hgb⟩=>h3 g hg f hf b hgb hb) (fun e he f hf b heb hfb=>?_),st.facts.mono hx.keep⟩
 ·rcases hn k ⟨f,hf,hk⟩with⟨g,hg,hgk⟩|h
  ·exact(cM.mem h1 g hg).2 k hgk
  ·exact .inl (yP hbl h)
 ·rcases hn b ⟨e,he,heb⟩with⟨g,hg,hgb⟩|h
  ·exact h3 g hg f hf b hgb hfb
  ·have:=f.here (cM.mem h2 f hf).1 b hfb
   omega
theorem xI{xs:List Operand}(O1 Or:List OE){t:ι→Ty}(hO:O=O1++Or)(hc:aj E.P f=true)(hs:c0 E.P f ts O1 t O2)(hx:jC E.N G xs ts)(hd:Nat.blt d E.N.n=true)(k: ∀i,RG E ops Q rest (O2 i++Or) ((d,t i)::G)):
  RG E ops Q (⟨some d,.call ⟨.value (.func f),xs.toArray,ats⟩,ty,pos,after,none⟩::rest) O G:= .of rfl fun a w S st=>by
 subst hO
 have hr:(execOp a.eval ⟨some d,.call ⟨.value (.func f),xs.toArray,ats⟩,ty,pos,after,none⟩).run E.P w= .ok (.enter f (xs.map a.eval).toArray) w:=by
  simp [execOp,resolve,Act.eval,Deferred.ofValue,invoke,ed hc]
 refine⟨fun c h=>(by cases h),?_⟩
 rw [hr]
 refine(hs w S _ st.sat (hx.tys st.facts) (np st.own).1.weak).mono fun en w' ⟨i,v,S',he,hv,h1,h2,h3,h4⟩=>⟨_,he,?_⟩;exact k i _ _ S' ((st.turn h1 h2 h3 h4).put hd hv)
end

structure OI where
 h:Nat→Option Nat×Nat:=fun _=>(none,0)
 os:List (Option Nat×Nat):=[]
 fp:Nat→Prop:=py
 v:Value:=undef
 ng:Nat→(Option Nat×Nat)×(Nat→Option Nat×Nat):=fun _=>((none,0),fun _=>(none,0))
def oU:OI:={}
def oi(l:Option Nat)(c:Nat):OI:={h:=fun _=>(l,c)}
def EffOK(E:En)(O:List OE)(need:mg)(o:Oper)(post:OI→List OE)(t:OI→Ty):Prop:=
 ∀a w S,jp w S→cM E.base E.B w S O→cT E.N S a need→E.base≤w.heap.size→
  Kd E.P o a w (fun a' w' => ∃v S' x,a' =a.put o.dst v∧fY (zJ O) w S w' S' ∧jp w' S' ∧cM E.base E.B w' S' (post x)∧(t x).p S' v)
variable{post:OI→List OE}{t' :TypeId}
section
variable{ty:TypeId}
theorem E8{y:Operand}{u:OI→Ty}(ti:TI E.P T sz bytes agg z)(hsz:r.sz=sz)(hz:Nat.beq z.length sz=true)(h0:Nat.blt 0 sz=true)(h128:Nat.ble bytes 2048=true)(ht:E.P.underlying t=some (.slice T))(hx:aH E.N G x (tV (aO l cap n)))(hy: ∀a w S,jp w S→cT E.N S a G→ ∃news,Src E.P r.sz t' (a.eval y) ys.length news w∧ux r S news ys)(happ:app xs ys=some zs)(hu: ∀l' cap' w0 S,(lY mm r T l' cap' zs).p w0 S→(u (oi l' cap')).p S (aO l' cap' zs.length))(hn:n=xs.length):
  EffOK E (lY mm r T l cap xs::O) G ⟨some d,.call ⟨.builtin .append,#[x,y],#[t,t']⟩,ty,pos,after,g⟩ (fun i=>lY mm r T (i.h 0).1 (i.h 0).2 zs::O) u:=fun a w S hs ho hf hb=>by
 subst hn
 have h1:a.eval x=aO l cap xs.length:=hx S a hf
 obtain⟨news,h2,h3⟩:=hy a w S hs hf
 obtain⟨l',cap',w',S',hr,hext,hsat,hh,hnew⟩:=xb (ty:=ty) ti hsz hz h0 h128 ht hs ho.1 hb h2 h3 happ
 have hrun:(execOp a.eval ⟨some d,.call ⟨.builtin .append,#[x,y],#[t,t']⟩,ty,pos,after,g⟩).run E.P w= .ok (.value (aO l' cap' zs.length)) w' :=by
  simp [execOp,resolve,invoke,builtin,h1,hr]
 refine⟨fun c h=>(by cases h),?_⟩
 rw [hrun]
 refine⟨_,S',oi l' cap',rfl,hext.more fun b hb=>⟨_,kE ..,hb⟩,hsat,⟨hh,fun f hf b hb hfb=>?_,ho.2.2.ext hext fun f hf b hb hbl=>ho.2.1 f hf b hbl hb⟩,hu l' cap' w' S' hh.1⟩
 rcases hnew b hb with h|h
 ·exact ho.2.1 f hf b h hfb
 ·have:=f.here (cM.mem ho.2.2 f hf).1 b hfb
  omega
theorem KR{y:Operand}(ti:TI E.P T sz bytes agg z)(hsz:r.sz=sz)(hz:Nat.beq z.length sz=true)(h0:Nat.blt 0 sz=true)(h128:Nat.ble bytes 2048=true)(ht:E.P.underlying t=some (.slice T))(ht' :t' =t)(hx:aH E.N G x (tV (aO l cap n)))(hy:aH E.N G y (tD (fH r) ys))(happ:app xs ys=some zs)(hn:n=xs.length:=by rfl):
  EffOK E (eH r T l cap xs::O) G ⟨some d,.call ⟨.builtin .append,#[x,y],#[t,t']⟩,ty,pos,after,g⟩ (fun i=>eH r T (i.h 0).1 (i.h 0).2 zs::O) (fun i=>tV (aO (i.h 0).1 (i.h 0).2 zs.length)):=by
 subst ht'
 exact E8 ti hsz hz h0 h128 ht hx (fun a w S hs hf=>tN ht hs (hy S a hf)) happ (fun _ _ _ _ _=>rfl) hn
theorem uf{y:Operand}(ti:TI E.P T sz bytes agg z)(hsz:r.sz=sz)(hz:Nat.beq z.length sz=true)(h0:Nat.blt 0 sz=true)(h128:Nat.ble bytes 2048=true)(ht:E.P.underlying t=some (.slice T))(ht' :t' =t)(hx:aH E.N G x (tO r l cap xs))(hy:aH E.N G y (tD (fH r) ys))(happ:app xs ys=some zs):
  EffOK E (dS r T l cap xs::O) G ⟨some d,.call ⟨.builtin .append,#[x,y],#[t,t']⟩,ty,pos,after,g⟩ (fun i=>dS r T (i.h 0).1 (i.h 0).2 zs::O) (fun i=>tO r (i.h 0).1 (i.h 0).2 zs):=by
 subst ht'
 exact E8 ti hsz hz h0 h128 ht (HI hx) (fun a w S hs hf=>tN ht hs (hy S a hf)) happ (fun _ _ _ _ h=>⟨rfl,pI h⟩) rfl
theorem PR{xs:List Operand}{u:OI→Ty}(hc:aj E.P f=true)(hs:fJ E.P f ts mm r T ys)(hx:jC E.N G xs ts)(hu: ∀l cap w0 S,(lY mm r T l cap ys).p w0 S→(u (oi l cap)).p S (aO l cap ys.length)):
  EffOK E O G ⟨some d,.call ⟨.value (.func f),xs.toArray,ats⟩,ty,pos,after,g⟩ (fun i=>lY mm r T (i.h 0).1 (i.h 0).2 ys::O) u:=fun a w S hsat ho hf hb=>by
 have hr:(execOp a.eval ⟨some d,.call ⟨.value (.func f),xs.toArray,ats⟩,ty,pos,after,g⟩).run E.P w= .ok (.enter f (xs.map a.eval).toArray) w:=by
  simp [execOp,resolve,Act.eval,Deferred.ofValue,invoke,ed hc]
 refine⟨fun c h=>(by cases h),?_⟩
 rw [hr]
 exact(hs w S _ hsat (hx.tys hf)).mono fun e w' ⟨l,cap,S',he,h1,h2,h3⟩=>⟨_,he,_,S',oi l cap,rfl,h1.more fun _ hb=>hb.elim,h2,pO ho h1 h3.1 (fun b hb=>(h3.2 b hb).resolve_right id) hb,hu l cap w' S' h3.1⟩
theorem cM.turn{Or O2:List OE}(h:cM base B w S (O1++Or))(hbl:base≤w.heap.size)(hx:fY (zJ O1) w S w' S')(ho:cM 0 py w' S' O2)(hn: ∀k,(∃f∈O2,f.fp k)→(∃f∈O1,f.fp k)∨w.heap.size≤k):cM base B w' S' (O2++Or):=by
 obtain⟨h1,h2,h3⟩:=np h
 refine Bm (j6 ho fun f hf k hk=>?_) (h2.ext hx fun f hf b hb ⟨g,hg,hgb⟩=>h3 g hg f hf b hgb hb) (fun e he f hf b heb hfb=>?_)
 ·rcases hn k ⟨f,hf,hk⟩with⟨g,hg,hgk⟩|h
  ·exact(cM.mem h1 g hg).2 k hgk
  ·exact .inl (yP hbl h)
 ·rcases hn b ⟨e,he,heb⟩with⟨g,hg,hgb⟩|h
  ·exact h3 g hg f hf b hgb hfb
  ·have:=f.here (cM.mem h2 f hf).1 b hfb
   omega
theorem PQ{xs:List Operand}(O1 Or:List OE){t:OI→Ty}{O2:OI→List OE}(hO:O=O1++Or)(hc:aj E.P f=true)(hs:c0 E.P f ts O1 t O2)(hx:jC E.N G xs ts)(hpost: ∀i,O2 i++Or=post i):
  EffOK E O G ⟨some d,.call ⟨.value (.func f),xs.toArray,ats⟩,ty,pos,after,g⟩ post t:=fun a w S hsat ho hf hb=>by
 subst hO
 obtain rfl:(fun i=>O2 i++Or)=post:=funext hpost
 have hr:(execOp a.eval ⟨some d,.call ⟨.value (.func f),xs.toArray,ats⟩,ty,pos,after,g⟩).run E.P w= .ok (.enter f (xs.map a.eval).toArray) w:=by
  simp [execOp,resolve,Act.eval,Deferred.ofValue,invoke,ed hc]
 refine⟨fun c h=>(by cases h),?_⟩
 rw [hr]
 exact(hs w S _ hsat (hx.tys hf) (np ho).1.weak).mono fun en w' ⟨i,v,S',he,hv,h1,h2,h3,h4⟩=>⟨_,he,v,S',i,rfl,h1.more fun b ⟨f,hf,hb⟩=>⟨f,Gm _ hf,hb⟩,h2,cM.turn ho hb h1 h3 h4,hv⟩
theorem zS{op:Op}{t:OI→Ty}(h:EffOK E O G ⟨some d,op,ty,pos,after,none⟩ post t)(hd:Nat.blt d E.N.n=true)(k: ∀x:OI,RG E ops Q rest (post x) ((d,t x)::G)):RG E ops Q (⟨some d,op,ty,pos,after,none⟩::rest) O G:= .of rfl fun a w S st=>
 oj (fun a' w' ⟨v,S',x,ha,hx,hs,ho,hv⟩=>by
  subst ha
  exact k x _ _ S' ⟨st.ext.step hx fun b ⟨f,hf,hb⟩=>(cM.mem st.own f hf).2 b hb,hs,ho,(st.facts.mono hx.keep).put hd hv⟩) (h a w S st.sat st.own st.facts st.base_le)
end

def LF(σ:Nat→OI)(k:Nat)(x:OI):Nat→OI:=fun j=>bif Nat.beq j k then x else σ j
theorem Qz(σ:Nat→OI)(k:Nat)(x:OI):LF σ k x k=x:=by simp [LF]
theorem DU(σ:Nat→OI){k j:Nat}(x:OI)(h:j≠k):LF σ k x j=σ j:=by
 have:Nat.beq j k=false:=by
  cases hb:Nat.beq j k with
  |false=>rfl
  |true=>exact absurd (oD hb) h
 simp [LF,this]
structure NE where
 slot:Nat
 ty:(Nat→OI)→Ty
 src:Option Nat
def abH(G:mg)(ts:List (OI→Ty))(n:NE):Prop:=
 match n.src with
 |some j=> ∀σ,(ts[j]?).map (fun f=>f (σ j))=some (n.ty σ)
 |none=> ∀σ,di G n.slot=some (n.ty σ)
def OY(G:mg)(ts:List (OI→Ty)):List NE→Prop
 |[]=>True
 |n::l=>abH G ts n∧OY G ts l
theorem OY.mem{ts:List (OI→Ty)}: ∀{l:List NE},OY G ts l→ ∀n∈l,abH G ts n
 |_::_,⟨h,_⟩,_,.head _=>h
 |_::_,⟨_,h⟩,_,.tail _ hm=>OY.mem h _ hm
def qH(E:En)(ops:Array Oper)(O:List OE)(need:mg)(o:Oper)(post:OI→List OE)(t:OI→Ty):Prop:=
 ∀a w S,jp w S→cM E.base E.B w S O→cT E.N S a need→E.base≤w.heap.size→
  if Region.wanted o (yielded ops a.tmps)then Kd E.P o a w (fun a' w' => ∃v S' x,a' =a.put o.dst v∧fY (zJ O) w S w' S' ∧jp w' S' ∧cM E.base E.B w' S' (post x)∧(t x).p S' v)
  else∃x,cM E.base E.B w S (post x)∧(t x).p S undef
theorem d8{need:mg}{t:OI→Ty}(hg:o.guard=none)(h:EffOK E O need o post t):qH E ops O need o post t:=fun a w S hs ho hf hb=>by
 have:Region.wanted o (yielded ops a.tmps)=true:=by unfold Region.wanted;rw [hg]
 rw [this,aX rfl]
 exact h a w S hs ho hf hb
def gx(es:List Bool)(i:Nat):Nat:=(es.take i).countP (· ==true)
def Na(L:List Oper)(es:List Bool):Bool:=(List.range es.length).all fun i=>(List.range i).all fun j=> !((es[i]?).getD false&&(es[j]?).getD false)||nu L L.length i j
structure DJE(E:En)(G:mg)(l:List Oper)(ts:List (OI→Ty))(Om:Nat→(Nat→OI)→List OE)(es:List Bool)(done:Array Bool)(a:Act)(w:World)(S:SH)(σ:Nat→OI)(c:Nat):Prop where
 ext:fY E.B E.w0 E.S0 w S
 sat:jp w S
 own:cM E.base E.B w S (Om c σ)
 size:a.tmps.size=E.N.n
 defers:a.defers=E.N.ds
 dsz:done.size=l.length
 down: ∀j o,l[j]? =some o→done.getD j false=true→ ∀e∈o.after,Region.binds .any e=true→done.getD e.on false=true
 old: ∀k t,di G k=some t→(∀j o,l[j]? =some o→done.getD j false=true→o.dst≠some k)→t.p S (a.tmps.getD k undef)
 new: ∀j o d f,l[j]? =some o→done.getD j false=true→o.dst=some d→ts[j]? =some f→(f (σ j)).p S (a.tmps.getD d undef)
 chain: ∀k,es[k]? =some true→(done.getD k false=true↔gx es k<c)
variable{es:List Bool}
theorem Fl: ∀{i j:Nat},i<j→es[i]? =some true→gx es i<gx es j:=by
 induction es with
 |nil=>intro i j _ h;simp at h
 |cons e es ih=>
  intro i j hij h
  cases j with
  |zero=>omega
  |succ j=>
   cases i with
   |zero=>simp at h;subst h;simp [gx]
   |succ i=>
    have:=ih (i:=i) (j:=j) (by omega) (by simpa using h)
    cases e<;>simp [gx]at this ⊢ <;>omega
theorem v6: ∀{c k:Nat},c<gx es k→ ∃i,i<k∧es[i]? =some true∧gx es i=c:=by
 induction es with
 |nil=>intro c k h;simp [gx]at h
 |cons e es ih=>
  intro c k h
  cases k with
  |zero=>simp [gx]at h
  |succ k=>
   cases e with
   |false=>
    obtain⟨i,h1,h2,h3⟩:=ih (c:=c) (k:=k) (by simpa [gx] using h)
    exact⟨i+1,by omega,by simpa using h2,by simpa [gx] using h3⟩
   |true=>
    cases c with
    |zero=>exact⟨0,by omega,rfl,by simp [gx]⟩
    |succ c=>
     obtain⟨i,h1,h2,h3⟩:=ih (c:=c) (k:=k) (by simp [gx]at h ⊢;omega)
     exact⟨i+1,by omega,by simpa using h2,by simp [gx]at h3 ⊢;omega⟩
section
variable{ts:List (OI→Ty)}{Om:Nat→(Nat→OI)→List OE}
theorem DJE.step{σ:Nat→OI}{c c' :Nat}(h:DJE E G L ts Om es done a w S σ c){f:OI→Ty}{v:Value}{x:OI}{C:Nat→Prop}(hi:L[i]? =some o)(hd:o.dst=some d)(hdN:d<E.N.n)(hs2: ∀j p,L[j]? =some p→done.getD j false=true→p.dst=some d→i=j)(hwait: ∀e∈o.after,Region.binds .any e=true→done.getD e.on false=true)(ht:ts[i]? =some f)(hun:done.getD i true=false)(hext:fY C w S w' S')(hC: ∀b,C b→E.base≤b∨E.B b)(hsat:jp w' S')(hown:cM E.base E.B w' S' (Om c' (LF σ i x)))(hv:(f x).p S' v)(hch: ∀k,es[k]? =some true→((done.setIfInBounds i true).getD k false=true↔gx es k<c')):
  DJE E G L ts Om es (done.setIfInBounds i true) (a.put o.dst v) w' S' (LF σ i x) c' :=by
 have hda:d<a.tmps.size:=by rw [h.size];exact hdN
 have hlt:i<done.size:=by rw [h.dsz];exact(jL.1 hi).1
 have hset: ∀j,(done.setIfInBounds i true).getD j false=true→j=i∨done.getD j false=true:=fun j hj=>by
  by_cases hij:i=j
  ·exact .inl hij.symm
  ·rw [uI false hij]at hj;exact .inr hj
 have hseti:(done.setIfInBounds i true).getD i false=true:=by simp [hlt]
 have hun' :done.getD i false=false:=by simp [hlt]at hun ⊢;exact hun
 refine⟨h.ext.step hext hC,hsat,hown,?_,?_,by simp [h.dsz],fun j p hj hdone e he hb=>?_,fun k u hk hno=>?_,fun j p d' u hj hdone hd' hu=>?_,hch⟩
 ·rw [hd];simp [Act.put,h.size]
 ·rw [hd];exact h.defers
 ·rcases hset j hdone with rfl|hj'
  ·rw [hi]at hj
   have:o=p:=by simpa using hj
   subst this
   exact vt (hwait e he hb)
  ·exact vt (h.down j p hj hj' e he hb)
 ·have hne:d≠k:=fun e=>hno i o hi hseti (by rw [hd,e])
  rw [hd,qP hda,aM hne]
  exact u.mono hext.keep (h.old k u hk fun j p hj hdone=>hno j p hj (vt hdone))
 ·rw [hd,qP hda]
  by_cases hij:j=i
  ·subst hij
   rw [hi]at hj
   have:o=p:=by simpa using hj
   subst this
   rw [hd]at hd'
   have:d=d' :=by simpa using hd'
   subst this
   rw [aX rfl]
   rw [ht]at hu
   have:f=u:=by simpa using hu
   subst this
   rw [Qz]
   exact hv
  ·have hj' :=(hset j hdone).resolve_left hij
   have hne:d≠d' :=fun e=>by
    subst e
    have:=hs2 j p hj hj' hd'
    exact hij this.symm
   rw [aM hne,DU σ x hij]
   exact Ty.mono _ hext.keep (h.new j p d' u hj hj' hd' hu)
end

section
variable{ty:TypeId}
theorem sn(ht:E.P.underlying t=some (.slice e))(hx:aH E.N G x (tV (.slice none 0 0))):bQ E O G ⟨dst,.call ⟨.builtin .len,#[x],#[t]⟩,ty,pos,after,g⟩ (tD (rI .i64) (0:Int)):=
 .of_pure fun a w S _ _ hf=>by
  have h1:a.eval x= .slice none 0 0:=hx S a hf
  refine⟨.int .i64 0,?_,da.2 rfl⟩
  simp [execOp,resolve,invoke,builtin,Builtin.len_,lA ht,h1,goInt]
theorem sq(ht:E.P.underlying t=some (.slice e))(hx:aH E.N G x (tV (.slice none 0 0))):bQ E O G ⟨dst,.call ⟨.builtin .cap,#[x],#[t]⟩,ty,pos,after,g⟩ (tD (rI .i64) (0:Int)):=
 .of_pure fun a w S _ _ hf=>by
  have h1:a.eval x= .slice none 0 0:=hx S a hf
  refine⟨.int .i64 0,?_,da.2 rfl⟩
  simp [execOp,resolve,invoke,builtin,Builtin.cap_,lA ht,h1,goInt]
theorem xn{hi:Operand}(ht:E.P.underlying t=some (.slice T))(ti:TI E.P T sz bytes agg z)(hx:aH E.N G x (tV (.slice none 0 0)))(hhi:aH E.N G hi (tD (rI k) (0:Int))):
  bQ E O G ⟨dst,.slice t x none (some hi) none,ty,pos,after,g⟩ (tV (.slice none 0 0)):=
 .of_pure fun a w S _ _ hf=>by
  have h1:a.eval x= .slice none 0 0:=hx S a hf
  have h6:=da.1 (hhi S a hf)
  refine⟨.slice none 0 0,?_,rfl⟩
  have hb:=lF (P:=E.P) (w:=w) (k:=k) (n:=(0:Int)) (y:=0) (code:= .sliceAcap) (by omega) (by omega)
  simp [execOp,Instr.sliceAt,h1,h6,Instr.slice,lA ht,Instr.sliceBounds,hb,lF (k:=k) (n:=(0:Int)) (y:=0) (by omega) (by omega),ti.sizeOf]
end

def nD{α:Type}(n:Int)(z:α):Option (List α):=if 0≤n∧n≤68719476736 then some (List.replicate n.toNat z)else none
theorem wV{n:Int}{z:α}(h:nD n z=some zs): ∃m:Nat,n=m∧m≤68719476736∧zs=List.replicate m z:=by
 unfold nD at h
 split at h
 ·rename_i hc;exact⟨n.toNat,by omega,by omega,by simpa using h.symm⟩
 ·cases h
theorem uX{α:Type}{r:Rp α}{x:α}{z:List Value}(hx: ∀S,r.rc S z x)(S:SH): ∀n:Nat,ux r S (List.replicate n z).flatten (List.replicate n x)
 |0=>rfl
 |n+1=>⟨z,_,by rw [List.replicate_succ,List.flatten_cons],hx S,uX hx S n⟩
theorem Et(z:List Value):(List.range z.length).map (fun i=>z[i%z.length]?.getD default)=z:=by
 apply I4
 intro k
 rcases mS k z.length with h|h
 ·rw [Cp,List.getElem?_range h]
  simp [Co h,h]
 ·rw [DG (by simpa using h),DG h]
theorem od(z:List Value)(n:Nat):(Builtin.zeroCells z.toArray n).toList=(List.replicate n z).flatten:=by
 unfold Builtin.zeroCells
 simp
 induction n with
 |zero=>simp
 |succ n ih=>
  rw [List.replicate_succ,List.flatten_cons,←ih,Nat.succ_mul,Nat.add_comm,List.range_add,List.map_append,Et,List.map_map]
  congr 1
  apply I5
  intro i _
  simp
theorem va(z:List Value)(n sz:Nat)(h:z.length=sz):(madeCells z.toArray (n*sz)).toList=(List.replicate n z).flatten:=by
 subst h
 have:=od z n
 unfold Builtin.zeroCells at this
 unfold madeCells
 simpa using this
section
variable{ty:TypeId}
theorem flat_len(h:z.length=sz)(n:Nat):(List.replicate n z).flatten.length=n*sz:=by
 simp [h]
theorem R7{x:α}{n:Int}{y y' :Operand}(ti:TI E.P T sz bytes agg z)(hsz:r.sz=sz)(hz:Nat.beq z.length sz=true)(h128:Nat.ble bytes 2048=true)(ht:E.P.underlying t=some (.slice T))(hx: ∀S,r.rc S z x)(hy:aH E.N G y (tD (rI k) n))(hy' :aH E.N G y' (tD (rI k') n))(h:nD n x=some zs):
  EffOK E O G ⟨some d,.makeSlice t y y',ty,pos,after,g⟩ (fun i=>eH r T (i.h 0).1 (i.h 0).2 zs::O) (fun i=>tV (aO (i.h 0).1 (i.h 0).2 zs.length)):=fun a w S hs ho hf hb=>by
 subst hsz
 obtain⟨i,zv,hi,h1,h2,h3,h4⟩:=ti.get
 obtain⟨m,rfl,hm,rfl⟩:=wV h
 have hyv:=da.1 (hy S a hf)
 have hyv' :=da.1 (hy' S a hf)
 have hz2:z.length=r.sz:=oD hz
 have h128' :=oT h128
 have hbytes:(i.bytes:Int)*(m:Int)≤281474976710656:=by
  have:i.bytes*m≤2048*68719476736:=wv (by omega) hm
  have h5:((i.bytes*m:Nat):Int)≤281474976710656:=by omega
  rwa [wR]at h5
 have hr:=run_make (P:=E.P) w t T i zv ht hi h3 k k' (m:Int) (m:Int) (by omega) (Int.le_refl _) hbytes (by omega)
 rw [Ac,h1,h4]at hr
 obtain⟨he,hs',hno⟩:=fX (w:=w) (.cells (madeCells z.toArray (m*r.sz)) T (0,0)) hs
 have hrun:(execOp a.eval ⟨some d,.makeSlice t y y',ty,pos,after,g⟩).run E.P w= .ok (.value (.slice (some ⟨w.heap.size,0,none⟩) m m)) (w.alloc (.cells (madeCells z.toArray (m*r.sz)) T (0,0))):=by
  simp [execOp,hyv,hyv',hr]
 refine⟨fun c h=>(by cases h),?_⟩
 rw [hrun]
 have hfl:=flat_len hz2 m
 refine⟨_,S,oi (some w.heap.size) m,rfl,he.more fun _ hb=>hb.elim,hs',pO ho he (e:=eH r T (some w.heap.size) m (List.replicate m x)) ⟨(List.replicate m z).flatten,⟨_,wP w _,by simp,by simp only [maxLen];omega,by rw [size_madeCells],?_⟩,uX hx S m,fun b hb=>by rw [←pu hb];exact hno⟩ (fun b hb=>Ag (pu hb)) hb,?_⟩
 ·rw [va z m r.sz hz2,Ct]
  exact rF (by omega)
 ·show _=aO _ _ _
  rw [Ct];rfl
theorem xA{x:α}{n:Int}{s y:Operand}{kn:IntKind}(ti:TI E.P T sz bytes agg z)(hsz:r.sz=sz)(hz:Nat.beq z.length sz=true)(h0:Nat.blt 0 sz=true)(h128:Nat.ble bytes 2048=true)(ht:E.P.underlying t=some (.slice T))(ht' :E.P.underlying t' =some (.int kn))(hx: ∀S,r.rc S z x)(hs' :aH E.N G s (tV (.slice none 0 0)))(hy:aH E.N G y (tD (rI k) n))(hn:0<n)(h:nD n x=some zs):
  EffOK E O G ⟨some d,.call ⟨.builtin .append,#[s,y],#[t,t']⟩,ty,pos,after,g⟩ (fun i=>eH r T (i.h 0).1 (i.h 0).2 zs::O) (fun i=>tV (aO (i.h 0).1 (i.h 0).2 zs.length)):=fun a w S hs ho hf hb=>by
 subst hsz
 obtain⟨i,zv,hi,h1,h2,h3,h4⟩:=ti.get
 obtain⟨m,rfl,hm,rfl⟩:=wV h
 have hsv:a.eval s= .slice none 0 0:=hs' S a hf
 have hyv:=da.1 (hy S a hf)
 have hz2:z.length=r.sz:=oD hz
 have h128' :=oT h128
 have h0' :0<r.sz:=by simpa [wt] using h0
 have hbytes:m*i.bytes≤281474976710656:=by
  have:m*i.bytes≤68719476736*2048:=wv hm (by omega)
  omega
 have hr:=Lib.run_append_nil_zeros (P:=E.P) w t t' ty T i zv k kn ht ht' hi h3 m (by omega) (by omega) (by omega) hbytes
 have hge:=grownCap_ge w m 0 T
 have hle:=grownCap_le_maxLen w m 0 T (by simp only [maxLen];omega)
 generalize grownCap w m 0 T=cp at hr hge hle
 obtain⟨C,hC⟩: ∃C,Builtin.zeroCells zv.cells m++Builtin.zeroCells zv.cells (cp-m)=C:=⟨_,rfl⟩
 rw [hC]at hr
 obtain⟨he0,hs0⟩:=xL (w:=w) hs
 obtain⟨he,hs2,hno⟩:=fX (w:=w.drew) (.cells C T (0,0)) hs0
 have hx2:fY py w S (w.drew.alloc (.cells C T (0,0))) S:=he0.trans he
 have hrun:(execOp a.eval ⟨some d,.call ⟨.builtin .append,#[s,y],#[t,t']⟩,ty,pos,after,g⟩).run E.P w= .ok (.value (.slice (some ⟨w.heap.size,0,none⟩) m cp)) (w.drew.alloc (.cells C T (0,0))):=by
  simp [execOp,resolve,invoke,builtin,hsv,hyv,hr]
 refine⟨fun c h=>(by cases h),?_⟩
 rw [hrun]
 have hfl:=flat_len hz2 m
 have hC1:C.toList=(List.replicate m z).flatten++(List.replicate (cp-m) z).flatten:=by
  rw [←hC,Array.toList_append,h4,od,od]
 refine⟨_,S,oi (some w.heap.size) cp,rfl,hx2.more fun _ hb=>hb.elim,hs2,pO ho hx2 (e:=eH r T (some w.heap.size) cp (List.replicate m x)) ⟨(List.replicate m z).flatten,⟨C,wP w.drew _,by simpa using hge,hle,?_,?_⟩,uX hx S m,fun b hb=>by rw [←pu hb];exact hno⟩ (fun b hb=>Ag (pu hb)) hb,?_⟩
 ·have:C.toList.length=cp*r.sz:=by
   rw [hC1,iF,hfl,flat_len hz2,←um];congr 1;omega
  simpa using this
 ·rw [hC1,Ct,←hfl,List.take_left]
 ·show _=aO _ _ _
  rw [Ct];rfl

theorem Hf{x:α}{y:Operand}(ti:TI E.P T sz bytes agg z)(hsz:r.sz=sz)(hz:Nat.beq z.length sz=true)(ht:E.P.underlying t=some (.slice T))(hx: ∀S,r.rc S z x)(hone:z.all (·.oneCell')=true)(hs:dj xs lo (xs.length:Int)=some ys)(hy:aH E.N G y (tV (oy sz l cap lo.toNat ys.length)))(hzs:xs.take lo.toNat++List.replicate ys.length x=zs)(k:RG E ops Q rest (eH r T l cap zs::O) G):
  RG E ops Q (⟨none,.call ⟨.builtin .clear,#[y],#[t]⟩,ty,pos,after,none⟩::rest) (eH r T l cap xs::O) G:= .of rfl fun a w S st=>by
 subst hsz
 subst hzs
 obtain⟨i,zv,hi,h1,h2,h3,h4⟩:=ti.get
 have hyv:a.eval y=oy r.sz l cap lo.toNat ys.length:=hy S a st.facts
 have hz2:z.length=r.sz:=oD hz
 obtain⟨lo',m,rfl,hm,h5,h6,rfl⟩:=gN hs
 have hm' :m=xs.length:=by omega
 subst hm'
 rw [wS]at hyv k
 rw [Ac]at hyv k
 by_cases hnil:xs.drop lo' =[]
 ·have hlo:xs.length≤lo' :=FJ.1 hnil
  rw [hnil]at hyv k
  have e1:xs.take lo' ++List.replicate ([]:List α).length x=xs:=by simp [rF hlo]
  rw [e1]at k
  have hrun:(execOp a.eval ⟨none,.call ⟨.builtin .clear,#[y],#[t]⟩,ty,pos,after,none⟩).run E.P w= .ok (.value (.tuple #[])) w:=by
   cases l<;>simp [execOp,resolve,invoke,builtin,Builtin.clear_,lA ht,hyv,oy]
  refine⟨fun c h=>(by cases h),?_⟩
  rw [hrun]
  exact k _ _ S st
 ·obtain⟨⟨cells,hraw,hrc,hno⟩,hbase⟩:=st.own.1
  have hlt:lo' <xs.length:=by
   rcases mS lo' xs.length with h|h
   ·exact h
   ·exact absurd (Ae h) hnil
  cases l with
  |none=>have:=hraw.1;omega
  |some b=>
   obtain⟨cur,g1,g2,g3,g4,g5⟩:=hraw
   have hno' :S b=none:=hno b rfl
   have hne: ¬(cap=lo'):=by omega
   have hld:(xs.drop lo').length=xs.length-lo' :=by simp
   have hfl:=flat_len hz2 (xs.length-lo')
   have hones: ∀u∈(List.replicate (xs.length-lo') z).flatten,u.oneCell' =true:=by
    intro u hu
    obtain⟨q,hq,hu⟩:=List.mem_flatten.1 hu
    rw [(List.mem_replicate.1 hq).2]at hu
    exact jx.1 hone u hu
   have hmul:xs.length*r.sz≤cur.size:=by rw [g4];exact Bu _ g2
   have hfit:lo' *r.sz+(xs.length-lo')*r.sz=xs.length*r.sz:=by rw [←um];congr 1;omega
   have hst:=run_storeCells_at E.P b (lo' *r.sz) T (List.replicate (xs.length-lo') z).flatten 0 cur w g1 (by omega) hones
   simp only [wG]at hst
   have hrun:(execOp a.eval ⟨none,.call ⟨.builtin .clear,#[y],#[t]⟩,ty,pos,after,none⟩).run E.P w= .ok (.value (.tuple #[])) (w.setRow b (cur.toList.take (lo' *r.sz)++(List.replicate (xs.length-lo') z).flatten++cur.toList.drop (lo' *r.sz+(List.replicate (xs.length-lo') z).flatten.length)).toArray):=by
    have e1: ∃q,xs.length-lo' =q+1:=⟨xs.length-lo' -1,by omega⟩
    obtain⟨q,hq⟩:=e1
    have e2:a.eval y= .slice (some ⟨b,lo' *r.sz,none⟩) (q+1) (cap-lo'):=by rw [hyv,hld,hq];simp [oy,hne]
    rw [hq]at hst ⊢
    simp [execOp,resolve,invoke,builtin,Builtin.clear_,lA ht,e2,zeroValue,typeInfo,hi,h3,h4,od,hst]
   refine⟨fun c h=>(by cases h),?_⟩
   rw [hrun]
   have hset:=setRow_heap w b cur (cur.toList.take (lo' *r.sz)++(List.replicate (xs.length-lo') z).flatten++cur.toList.drop (lo' *r.sz+(List.replicate (xs.length-lo') z).flatten.length)).toArray T _ g1
   have hl2:(xs.take lo' ++List.replicate (xs.drop lo').length x).length=xs.length:=by simp;omega
   have hsp:ux r S (cells.take (lo' *r.sz)) (xs.take lo'):=by
    have e:xs=xs.take lo' ++xs.drop lo' :=(uG _ _).symm
    rw [e]at hrc
    have:=(qk hrc).1
    rwa [show(xs.take lo').length=lo' from by simp;omega]at this
   have hcl:((cur.toList.take (lo' *r.sz)++(List.replicate (xs.length-lo') z).flatten++cur.toList.drop (lo' *r.sz+(List.replicate (xs.length-lo') z).flatten.length)).toArray).toList.take ((xs.take lo' ++List.replicate (xs.drop lo').length x).length*r.sz)=cells.take (lo' *r.sz)++(List.replicate (xs.length-lo') z).flatten:=by
    rw [hl2,←g5,Br,wQ (Bu _ (by omega))]
    have hlen1:(cur.toList.take (lo' *r.sz)++(List.replicate (xs.length-lo') z).flatten).length=xs.length*r.sz:=by
     rw [iF,hfl,Cn,DF,wQ (by omega)];exact hfit
    rw [←hlen1,List.take_left]
   obtain⟨q1,q2,q3⟩:=ql (O:=O) st.sat (eH r T (some b) cap xs) (eH r T (some b) cap (xs.take lo' ++List.replicate (xs.drop lo').length x)) st.own (fun k=>⟨fun h=>(pu h).symm,fun h=>by rw [h];rfl⟩) (fun k=>⟨fun h=>(pu h).symm,fun h=>by rw [h];rfl⟩)
    (w' :=w.setRow b (cur.toList.take (lo' *r.sz)++(List.replicate (xs.length-lo') z).flatten++cur.toList.drop (lo' *r.sz+(List.replicate (xs.length-lo') z).flatten.length)).toArray) ⟨rfl,rfl,rfl,by simp [World.setRow],dn _⟩ (fun k hk=>setRow_other w b k _ hk)
    ⟨cells.take (lo' *r.sz)++(List.replicate (xs.length-lo') z).flatten,⟨_,hset,by rw [hl2];exact g2,g3,by simp only [Gj,iF,Cn,DE,DF];omega,hcl⟩,by rw [hld];exact vM hsp (uX hx S _),fun k hk=>by rw [←pu hk];exact hno'⟩ hno'
   ·exact k _ _ S ⟨st.ext.step q1 (fun c hc=>hbase c (by rw [hc];rfl)),q2,q3,st.facts⟩
end

def uy{α:Type}(r:Rp α)(n:Nat):Rp (List α) where
 sz:=n*r.sz
 agg:=true
 rc:=fun S cs xs=>xs.length=n∧ux r S cs xs
 mono:=fun h ⟨h1,h2⟩=>⟨h1,sY h h2⟩
 len:=fun⟨h1,h2⟩=>by rw [oO h2,h1]
 one:=fun⟨_,h2⟩=>Dc h2
 sc:=fun h=>by cases h
section
section
variable{ty:TypeId}
theorem F1{i:Int}(ht:E.P.underlying t=some (.array n e))(ti:TI E.P e sz bytes agg z)(hsz:r.sz=sz)(hx:aH E.N G x (bM (uy r n) xs))(hi:aH E.N G ix (tD (rI k) i))(hy:cR xs i=some y):
  bQ E O G ⟨dst,.indexAddr t x ix,ty,pos,after,g⟩ (bM r y):=
 .of_pure fun a w S _ _ hf=>by
  subst hsz
  obtain⟨b,off,c,T,fr,h1,h2,h3,h4⟩:=hx S a hf
  have h5:a.eval ix= .int k i:=da.1 (hi S a hf)
  obtain⟨h0,hy'⟩:=mY hy
  have hlt:i.toNat<xs.length:=(jL.1 hy').1
  have hc:0≤i∧i<(n:Int):=⟨h0,by omega⟩
  refine⟨.pointer (some ⟨b,off+i.toNat*r.sz,none⟩),?_,b,_,c,T,fr,rfl,h2,?_⟩
  ·simp [execOp,h1,h5,Instr.indexAt,asIntOf,lA ht,Instr.sureAddr,hc,ti.sizeOf,jH]
  ·have h6:=Dd h4 hy'
   rw [Ah,Br,pD]at h6
   have hmul:i.toNat*r.sz+r.sz≤n*r.sz:=by rw [←Nat.succ_mul];exact Bu _ (by omega)
   have hmin:min r.sz ((uy r n).sz-i.toNat*r.sz)=r.sz:=by
    show min r.sz (n*r.sz-i.toNat*r.sz)=r.sz
    omega
   rwa [hmin]at h6
theorem FZ{i:Int}(ht:E.P.underlying t=some (.array n e))(ti:TI E.P e sz bytes agg z)(hm:bx (uy r n) T b xs∈O)(hx:aH E.N G x (tV (aP b 0)))(hi:aH E.N G ix (tD (rI k) i))(hy:cR xs i=some y):
  bQ E O G ⟨dst,.indexAddr t x ix,ty,pos,after,g⟩ (tV (aP b (i.toNat*sz))):=
 .of_pure fun a w S _ ho hf=>by
  have h1:a.eval x=aP b 0:=hx S a hf
  have h5:a.eval ix= .int k i:=da.1 (hi S a hf)
  obtain⟨⟨_,c,_,h4,_⟩,_⟩:=ho.mem _ hm
  obtain⟨h0,hy'⟩:=mY hy
  have hlt:i.toNat<xs.length:=(jL.1 hy').1
  have hc:0≤i∧i<(n:Int):=⟨h0,by omega⟩
  refine⟨_,?_,rfl⟩
  simp [execOp,h1,h5,aP,Instr.indexAt,asIntOf,lA ht,Instr.sureAddr,hc,ti.sizeOf,jH]
end
end
theorem y6{α:Type}{r:Rp α}{c:Value}{x:α}(h: ∀S,r.rc S [c] x)(S:SH): ∀n,ux r S (List.replicate n c) (List.replicate n x)
 |0=>rfl
 |n+1=>⟨[c],_,rfl,h S,y6 h S n⟩
theorem Sy{c:Value}{x:α}(n:Nat)(h: ∀S,r.rc S [c] x): ∀S,(uy r n).rc S (List.replicate n c) (List.replicate n x):=fun S=>⟨Ct,y6 h S n⟩
def XO(n:Nat):Option Unit:=if n≤68719476736 then some ()else none
def Wf(n:Int):Option Unit:=if 0<n then some ()else none
theorem EU{n:Int}{u:Unit}(h:Wf n=some u):0<n:=by
 unfold Wf at h
 split at h
 ·assumption
 ·cases h
theorem FH{e:Exit}(mm:Bool)(r:Rp α)(T:TypeId)(h:AT E Q e (lY mm r T none 0 []::O) G):AT E Q e O G:=fun a w S st=>h a w S (st.fresh mm r T)
theorem yo{x:α}(h:dj xs lo (xs.length:Int)=some ys)(hz:xs.take lo.toNat++List.replicate ys.length x=zs):zs.length=xs.length:=by
 obtain⟨l,m,rfl,hm,h1,h2,rfl⟩:=gN h
 have hm' :m=xs.length:=by omega
 subst hm'
 rw [←hz]
 simp
 omega

def tC(n:FuncId)(cts:List Ty):Ty where
 p:=fun S v=> ∃cap:List Value,v= .func (.func n) #[] cap.toArray∧wD S cts cap
 mono:=fun h ⟨cap,e,k⟩=>⟨cap,e,wD.mono h k⟩
section
section
variable{ty:TypeId}
theorem Kf{fid:FuncId}{caps:List Operand}(hcap:jC E.N G caps cts):bQ E O G ⟨dst,.makeFunc (.func fid) #[] caps.toArray,ty,pos,after,g⟩ (tC fid cts):=
 .of_pure fun a w S _ _ hf=>⟨.func (.func fid) #[] (caps.map a.eval).toArray,by simp [execOp,Instr.makeFunc],_,rfl,hcap.tys hf⟩
end
theorem BZ{n:FuncId}{ty:TypeId}{fo:Operand}{xs:List Operand}(O1 Or:List OE){t:OI→Ty}{O2:OI→List OE}(hO:O=O1++Or)(hc:aj E.P n=true)(hs:c0 E.P n (ts++cts) O1 t O2)(hf:aH E.N G fo (tC n cts))(hx:jC E.N G xs ts)(hpost: ∀i,O2 i++Or=post i):
  EffOK E O G ⟨some d,.call ⟨.value fo,xs.toArray,ats⟩,ty,pos,after,g⟩ post t:=fun a w S hsat ho hF hb=>by
 subst hO
 obtain rfl:(fun i=>O2 i++Or)=post:=funext hpost
 obtain⟨cap,e,hcap⟩:=hf S a hF
 have hr:(execOp a.eval ⟨some d,.call ⟨.value fo,xs.toArray,ats⟩,ty,pos,after,g⟩).run E.P w= .ok (.enter n ((xs.map a.eval).toArray++cap.toArray)) w:=by
  simp [execOp,resolve,e,Deferred.ofValue,invoke,ed hc]
 refine⟨fun c h=>(by cases h),?_⟩
 rw [hr]
 have e2:(xs.map a.eval).toArray++cap.toArray=((xs.map a.eval)++cap).toArray:=by simp
 rw [e2]
 exact(hs w S _ hsat ((hx.tys hF).append hcap) (np ho).1.weak).mono fun en w' ⟨i,v,S',he,hv,h1,h2,h3,h4⟩=>⟨_,he,v,S',i,rfl,h1.more fun b ⟨f,hf,hb⟩=>⟨f,Gm _ hf,hb⟩,h2,cM.turn ho hb h1 h3 h4,hv⟩
end

def xr{α:Type}(xs:List α)(lo:Int)(n:Nat)(i:Int):Option α:=if 0≤i∧i<(n:Int)then cR xs (lo+i)else none
theorem qr{i:Int}(h:xr xs lo n i=some y):0≤i∧i<(n:Int)∧cR xs (lo+i)=some y:=by
 unfold xr at h
 split at h
 ·rename_i hc;exact⟨hc.1,hc.2,h⟩
 ·cases h
theorem si(h:dj xs lo hi=some ys):0≤lo:=by
 obtain⟨l,m,rfl,_,_,_,_⟩:=gN h
 omega
section
theorem mQ(hm:lY mm r T l cap xs∈O)(hs:dj xs lo hi=some ys)(h:(l=none→ys.length=0)∧ys.length≤maxLen→RG E ops Q rest O G):RG E ops Q rest O G:=fun a w S st=>by
 refine h ?_ a w S st
 obtain⟨cells,h1,_⟩:=(st.own.mem _ hm).1
 obtain⟨l',m,_,_,_,h8,rfl⟩:=gN hs
 have hlen:((xs.take m).drop l').length≤xs.length:=by simp;omega
 cases l with
 |none=>have:=h1.1;exact⟨fun _=>by omega,by omega⟩
 |some b=>obtain⟨cur,_,g2,g3,_⟩:=h1;exact⟨fun h=>(by cases h),by omega⟩
section
variable{ty:TypeId}
theorem Dg{lo:Nat}(ht:E.P.underlying t=some (.slice e))(hv:l=none→n=0)(hx:aH E.N G x (tV (oy sz l cap lo n))):
  bQ E O G ⟨dst,.call ⟨.builtin .len,#[x],#[t]⟩,ty,pos,after,g⟩ (tD (rI .i64) (n:Int)):=
 .of_pure fun a w S _ ho hf=>by
  have h1:a.eval x=oy sz l cap lo n:=hx S a hf
  obtain⟨ad,c,h3⟩: ∃ad c,oy sz l cap lo n= .slice ad n c:=by
   cases l with
   |none=>rw [hv rfl];exact⟨none,0,rfl⟩
   |some b=>exact⟨_,_,rfl⟩
  refine⟨.int .i64 n,?_,da.2 rfl⟩
  simp [execOp,resolve,invoke,builtin,Builtin.len_,lA ht,h1,h3,goInt]
theorem ne{i:Int}(ht:E.P.underlying t=some (.slice e))(ti:TI E.P e sz bytes agg z)(hsz:r.sz=sz)(hm:lY mm r U l cap xs∈O)(hl0:0≤lo)(hx:aH E.N G x (tV (oy sz l cap lo.toNat n)))(hi' :aH E.N G ix (tD (rI k) i))(hy:xr xs lo n i=some y):
  bQ E O G ⟨dst,.indexAddr t x ix,ty,pos,after,g⟩ (tV (pz l ((lo+i).toNat*sz+0))):=
 .of_pure fun a w S _ ho hf=>by
  subst hsz
  have h1:a.eval x=oy r.sz l cap lo.toNat n:=hx S a hf
  have h3:a.eval ix= .int k i:=da.1 (hi' S a hf)
  obtain⟨hi0,hin,hxi⟩:=qr hy
  obtain⟨_,hx'⟩:=mY hxi
  obtain⟨b,cur,rfl,_,hle,_⟩:=uY (ho.mem _ hm).1 hx'
  have hlt2:(lo+i).toNat<xs.length:=(jL.1 hx').1
  have hne: ¬(cap=lo.toNat):=by omega
  refine⟨_,?_,rfl⟩
  have hc:0≤i∧i<(n:Int):=⟨hi0,hin⟩
  have e1:(lo+i).toNat=lo.toNat+i.toNat:=by omega
  simp [execOp,h1,h3,oy,hne,Instr.indexAt,asIntOf,lA ht,hc,ti.sizeOf,jH,pz,aP,e1,um]
end
end

section
variable{ty:TypeId}{l:List Oper}
end

theorem og3 [Inhabited α]{c b:Bool}{x:Option α}{k:α→Option β}{d:Option β}{r:β}(h:c=true→(if b=true then x.bind k else d)=some r): ∃y,((c&&b)=true→x=some y∧k y=some r)∧(c=true→b=false→d=some r):=by
 cases c with
 |false=>exact⟨default,fun e=>(by cases e),fun e=>(by cases e)⟩
 |true=>
  obtain⟨y,h1,h2⟩:=og (h rfl)
  exact⟨y,fun e=>h1 e,fun _ e=>h2 e⟩
def kD{κ β:Type} [DecidableEq κ]:List (κ×β)→κ→Option β
 |[],_=>none
 |p::m,k=>if p.1=k then some p.2 else kD m k
def cY{κ β:Type} [DecidableEq κ]:List (κ×β)→κ→β→List (κ×β)
 |[],k,v=>[(k,v)]
 |p::m,k,v=>if p.1=k then(k,v)::m else p::cY m k v
def Fv{κ:Type}(P:Program)(kt:TypeId)(kv:κ→Value):Prop:= ∃d,P.underlying kt=some d∧(∀a,MapKept.IsKey d (kv a))∧ ∀a b,kv a=kv b→a=b
def kvI(k:IntKind)(n:Int):Value:= .int k n
theorem dT{kt:TypeId}(h:P.underlying kt=some (.int k)):Fv P kt (kvI k):=⟨_,h,fun _=>rfl,fun a b e=>by injection e⟩
structure MV(β:Type) where
 p:World→SH→β→Option Nat×Nat→Value→Prop
 here: ∀{w S y o v},p w S y o v→ ∀j,o.1=some j→j<w.heap.size
 kept: ∀{C w w' S S' y o v},p w S y o v→fY C w S w' S' →(∀j,o.1=some j→ ¬C j)→p w' S' y o v
def uz{β:Type}(ty:β→Ty):MV β where
 p:=fun _ S y o v=>o.1=none∧(ty y).p S v
 here:=fun h j hj=>by rw [h.1]at hj;cases hj
 kept:=fun h k _=>⟨h.1,(ty _).mono k.keep h.2⟩
section
variable{κ:Type} [DecidableEq κ]{V:MV β}{kv:κ→Value}{d:TypeDesc}{k:κ}
def wB(V:MV β)(kv:κ→Value)(w:World)(S:SH)(h:Option κ):List MapEntry→List (Option Nat×Nat)→List (κ×β)→Prop
 |[],[],[]=>True
 |e::es,o::os,q::m=>e.key=kv q.1∧(if h=some q.1 then o.1=none else V.p w S q.2 o e.val)∧(∀o' ∈os,∀j,o.1=some j→o'.1≠some j)∧(∀p∈m,p.1≠q.1)∧wB V kv w S h es os m
 |_,_,_=>False
theorem GZ{h:Option κ}: ∀{es:List MapEntry} {os:List (Option Nat×Nat)} {m:List (κ×β)},wB V kv w S h es os m→ ∀o∈os,∀j,o.1=some j→j<w.heap.size
 |[],[],[],_,o,ho,_,_=>by cases ho
 |e::es,o::os,q::m,⟨_,h2,_,_,h5⟩,o',ho,j,hj=>by
  rcases fh.1 ho with rfl|ho
  ·split at h2
   ·rw [h2]at hj;cases hj
   ·exact V.here h2 j hj
  ·exact GZ h5 o' ho j hj
theorem A6{C:Nat→Prop}(k:fY C w S w' S'){h:Option κ}: ∀{es:List MapEntry} {os:List (Option Nat×Nat)} {m:List (κ×β)},wB V kv w S h es os m→(∀o∈os,∀j,o.1=some j→ ¬C j)→wB V kv w' S' h es os m
 |[],[],[],_,_=>trivial
 |e::es,o::os,q::m,⟨h1,h2,h3,h4,h5⟩,hC=>⟨h1,by
  split
  ·rename_i hh;rw [aX hh]at h2;exact h2
  ·rename_i hh;rw [aM hh]at h2;exact V.kept h2 k (hC o (kE ..)),h3,h4,A6 k h5 fun o' ho=>hC o' (ky _ ho)⟩
theorem CO{h:Option κ}: ∀{es:List MapEntry} {os:List (Option Nat×Nat)} {m:List (κ×β)},wB V kv w S h es os m→(∀p∈m,h≠some p.1)→wB V kv w S none es os m
 |[],[],[],_,_=>trivial
 |e::es,o::os,q::m,⟨h1,h2,h3,h4,h5⟩,hk=>⟨h1,by
  rw [aM (hk q (kE ..))]at h2
  rw [aM (by simp)];exact h2,h3,h4,CO h5 fun p hp=>hk p (ky _ hp)⟩
theorem rM(hd: ∀a,MapKept.IsKey d (kv a))(hi: ∀a b,kv a=kv b→a=b)(a b:κ):Instr.sameNow d (kv a) (kv b)=some (decide (a=b)):=by
 obtain⟨r,h1,h2⟩:=MapKept.sameNow_of_keys (hd a) (hd b)
 rw [h1]
 by_cases h:a=b
 ·subst h;rw [h2.2 rfl];simp
 ·rw [ww h]
  cases r with
  |false=>rfl
  |true=>exact absurd (hi _ _ (h2.1 rfl)) h
theorem qB(hd: ∀a,MapKept.IsKey d (kv a))(hi: ∀a b,kv a=kv b→a=b): ∀{es:List MapEntry} {os:List (Option Nat×Nat)} {m:List (κ×β)} (i:Nat),wB V kv w S none es os m→
  ∃os',(∀x∈os',x∈os∨x.1=none)∧wB V kv w S (some k) es os' m∧
   ((kD m k=none∧Instr.findNow d (kv k) es i=some none)∨ ∃(y:β) (o:Option Nat×Nat) (e:MapEntry) (j:Nat),kD m k=some y∧o∈os∧V.p w S y o e.val∧Instr.findNow d (kv k) es i=some (some (j,e.val))∧ ∀x∈os',∀q,o.1=some q→x.1≠some q)
 |[],[],[],i,_=>⟨[],fun x hx=>(by cases hx),trivial,.inl ⟨rfl,rfl⟩⟩
 |e::es,o::os,q::m,i,⟨h1,h2,h3,h4,h5⟩=>by
  rw [aM (by simp)]at h2
  by_cases hk:q.1=k
  ·refine⟨(none,0)::os,fun x hx=>?_,⟨h1,by rw [aX (by rw [hk])],fun _ _ _ hj=>(by cases hj),h4,?_⟩,.inr ⟨q.2,o,e,i,by unfold kD;rw [aX hk],kE ..,h2,?_,fun x hx j hj=>?_⟩⟩
   ·rcases fh.1 hx with rfl|hx
    ·exact .inr rfl
    ·exact .inl (ky _ hx)
   ·have: ∀{es:List MapEntry} {os:List (Option Nat×Nat)} {m:List (κ×β)},wB V kv w S none es os m→(∀p∈m,p.1≠k)→wB V kv w S (some k) es os m:=by
     intro es
     induction es with
     |nil=>intro os m h _;cases os<;>cases m<;>first|trivial|exact h.elim
     |cons e es ih=>
      intro os m h hm
      cases os with
      |nil=>cases m<;>exact h.elim
      |cons o os=>
       cases m with
       |nil=>exact h.elim
       |cons q m=>
        obtain⟨g1,g2,g3,g4,g5⟩:=h
        rw [aM (by simp)]at g2
        exact⟨g1,by rw [aM (fun e=>hm q (kE ..) (pu e).symm)];exact g2,g3,g4,ih g5 fun p hp=>hm p (ky _ hp)⟩
    exact this h5 (fun p hp=>by rw [←hk];exact h4 p hp)
   ·unfold Instr.findNow
    rw [h1,rM hd hi,hk,wH rfl]
   ·rcases fh.1 hx with rfl|hx
    ·exact fun e=>by cases e
    ·exact h3 x hx j hj
  ·obtain⟨os',g1,g2,g3⟩:=qB hd hi (i+1) h5
   refine⟨o::os',fun x hx=>?_,⟨h1,by rw [aM (fun e=>hk (pu e).symm)];exact h2,fun o' ho' j hj=>?_,h4,g2⟩,?_⟩
   ·rcases fh.1 hx with rfl|hx
    ·exact .inl (kE ..)
    ·exact(g1 x hx).imp (ky _) id
   ·rcases g1 o' ho' with h|h
    ·exact h3 o' h j hj
    ·rw [h];exact fun e=>by cases e
   ·have hf:Instr.findNow d (kv k) (e::es) i=Instr.findNow d (kv k) es (i+1):=by
     conv=>lhs;unfold Instr.findNow
     rw [h1,rM hd hi,ww (fun e=>hk e.symm)]
    have hm:kD (q::m) k=kD m k:=by conv=>lhs;unfold kD;rw [aM hk]
    rw [hf,hm]
    refine g3.imp id fun⟨y,o1,e1,j,f1,f2,f3,f4,f5⟩=>⟨y,o1,e1,j,f1,ky _ f2,f3,f4,fun x hx q hq=>?_⟩
    rcases fh.1 hx with rfl|hx
    ·exact fun e=>h3 o1 f2 q e hq
    ·exact f5 x hx q hq
theorem Kn(x:α)(xs:List α)(j:Nat)(f:α→α):(x::xs).modify (j+1) f=x::xs.modify j f:=by simp [List.modify_succ_cons]
theorem G0(hd: ∀a,MapKept.IsKey d (kv a))(hi: ∀a b,kv a=kv b→a=b){y:β}{o:Option Nat×Nat}{v:Value}{born:Nat}(hv:V.p w S y o v): ∀{es:List MapEntry} {os:List (Option Nat×Nat)} {m:List (κ×β)} (i:Nat),wB V kv w S (some k) es os m→(∀o' ∈os,∀j,o.1=some j→o'.1≠some j)→
    ∃os',(∀x∈os',x∈os∨x=o)∧
      ((∃(j:Nat) (e:MapEntry),Instr.findNow d (kv k) es i=some (some (i+j,e.val))∧es[j]? =some e∧e.key=kv k∧wB V kv w S none (es.modify j fun e=>{e with key:=kv k,val:=v}) os' (cY m k y))∨
        (Instr.findNow d (kv k) es i=some none∧wB V kv w S none (es++[⟨kv k,v,born⟩]) os' (cY m k y)))
  |[],[],[],i,_,_=>⟨[o],fun x hx=> .inr (CX.1 hx),.inr ⟨rfl,⟨rfl,by rw [aM (by simp)];exact hv,fun _ h=>(by cases h),fun _ h=>(by cases h),trivial⟩⟩⟩
  |e::es,o1::os,q::m,i,⟨h1,h2,h3,h4,h5⟩,ha=>by
    by_cases hk:q.1=k
    · refine⟨o::os,fun x hx=>?_,.inl ⟨0,e,?_,rfl,by rw [h1,hk],?_⟩⟩
      · rcases fh.1 hx with rfl|hx
        · exact .inr rfl
        · exact .inl (ky _ hx)
      · unfold Instr.findNow
        rw [h1,rM hd hi,hk,wH rfl]
        rfl
      · unfold cY
        rw [aX hk,List.modify_zero_cons]
        exact⟨rfl,by rw [aM (by simp)];exact hv,fun o' ho' =>ha o' (ky _ ho'),fun p hp=>by rw [←hk];exact h4 p hp,
          CO h5 fun p hp e=>h4 p hp (by rw [hk];exact(pu e).symm)⟩
    · obtain⟨os',g1,g2⟩:=G0 hd hi (born:=born) hv (i+1) h5 fun o' ho' =>ha o' (ky _ ho')
      rw [aM (fun e=>hk (pu e).symm)]at h2
      have hf:Instr.findNow d (kv k) (e::es) i=Instr.findNow d (kv k) es (i+1):=by
        conv=>lhs;unfold Instr.findNow
        rw [h1,rM hd hi,ww (fun e=>hk e.symm)]
      have hm:cY (q::m) k y=q::cY m k y:=by conv=>lhs;unfold cY;rw [aM hk]
      have hap: ∀o' ∈os',∀j,o1.1=some j→o'.1≠some j:=fun o' ho' j hj=>by
        rcases g1 o' ho' with h|rfl
        · exact h3 o' h j hj
        · exact fun e=>ha o1 (kE ..) j e hj
      have hne: ∀p∈cY m k y,p.1≠q.1:=by
        have: ∀m:List (κ×β),(∀p∈m,p.1≠q.1)→ ∀p∈cY m k y,p.1≠q.1:=by
          intro m
          induction m with
          |nil=>intro _ p hp;rw [CX.1 hp];exact fun e=>hk e.symm
          |cons p0 m ih=>
            intro hm p hp
            unfold cY at hp
            split at hp
            · rcases fh.1 hp with rfl|hp
              · exact fun e=>hk e.symm
              · exact hm p (ky _ hp)
            · rcases fh.1 hp with rfl|hp
              · exact hm _ (kE ..)
              · exact ih (fun p hp=>hm p (ky _ hp)) p hp
        exact this m h4
      rw [hf,hm]
      refine⟨o1::os',fun x hx=>?_,g2.imp (fun⟨j,e',f1,f2,f3,f4⟩=>⟨j+1,e',by rw [f1];congr 3;omega,by simpa using f2,f3,?_⟩) fun⟨f1,f2⟩=>⟨f1,?_⟩⟩
      · rcases fh.1 hx with rfl|hx
        · exact .inl (kE ..)
        · exact(g1 x hx).imp (ky _) id
      · rw [Kn]
        exact⟨h1,by rw [aM (by simp)];exact h2,hap,hne,f4⟩
      · exact⟨h1,by rw [aM (by simp)];exact h2,hap,hne,f2⟩
theorem GY{h:Option κ}: ∀{es:List MapEntry} {os:List (Option Nat×Nat)} {m:List (κ×β)},wB V kv w S h es os m→ ∀x∈es,∃q∈m,x.key=kv q.1
 |[],[],[],_,x,hx=>by cases hx
 |e::es,o::os,q::m,⟨h1,_,_,_,h5⟩,x,hx=>by
  rcases fh.1 hx with rfl|hx
  ·exact⟨q,kE ..,h1⟩
  ·obtain⟨q',g1,g2⟩:=GY h5 x hx
   exact⟨q',ky _ g1,g2⟩
theorem PG(hd: ∀a,MapKept.IsKey d (kv a)){h:Option κ}{es:List MapEntry}{os:List (Option Nat×Nat)}{m:List (κ×β)}(h4:wB V kv w S h es os m)(g1:Instr.findNow d (kv k) es i=some none){x:MapEntry}(hx:x∈es):x.key≠kv k:=by
 rcases MapKept.findNow_spec (hd k) es i (fun y hy=>by obtain⟨q,_,e⟩:=GY h4 y hy;rw [e];exact hd _)with⟨_,h2⟩|⟨j,e,h2,_⟩
 ·exact h2 x hx
 ·rw [g1]at h2;cases h2
def ki(V:MV β)(kv:κ→Value)(b:Nat)(h:Option κ)(os:List (Option Nat×Nat))(m:List (κ×β)):OE where
 fp:=fun j=>j=b∨ ∃o∈os,o.1=some j
 p:=fun w S=>S b=none∧(∀o∈os,o.1≠some b)∧ ∃es clock,w.heap[b]? =some (.map es clock)∧wB V kv w S h es.toList os m∧MapKept.Stamped es clock
 here:=by
  intro w S ⟨_,_,es,clock,h3,h4,_⟩ j hj
  rcases hj with rfl|⟨o,ho,hj⟩
  ·exact(vx.1 h3).1
  ·exact GZ h4 o ho j hj
 kept:=by
  intro C w w' S S' ⟨h1,h2,es,clock,h3,h4,hst⟩ k hC
  have hlt:=(vx.1 h3).1
  exact⟨by rw [k.old b hlt (hC b (.inl rfl))];exact h1,h2,es,clock,by rw [k.heap b hlt (hC b (.inl rfl))];exact h3,A6 k h4 (fun o ho j hj=>hC j (.inr ⟨o,ho,hj⟩)),hst⟩
def oA(b:Nat):Value:= .map (some b)
end
section
variable{κ:Type} [DecidableEq κ]{V:MV β}{kv:κ→Value}{os:List (Option Nat×Nat)}{m:List (κ×β)}{k:κ}{kt et:TypeId}{i v:Operand}{dst:Option Nat}{ty:TypeId}
def Hl(N:Fr)(G:mg)(x:Operand)(u:Value):Prop:= ∀S a,cT N S a G→a.eval x=u
theorem nt{N:Fr}{q:IntKind}{n:Int}(h:aH N G x (tD (rI q) n)):Hl N G x (kvI q n):=fun S a hf=>da.1 (h S a hf)
def ZV(P:Program)(T:TypeId)(z:Value):Prop:=(P.info? T).bind (·.zero)=some z
theorem ZV.run{z:Value}(h:ZV P T z)(w:World):(zeroValue T).run P w= .ok z w:=by
 unfold ZV at h
 cases hi:P.info? T with
 |none=>rw [hi]at h;cases h
 |some i=>
  rw [hi]at h
  have h' :i.zero=some z:=h
  simp [zeroValue,typeInfo,hi,h']
theorem wc(V:MV β)(kv:κ→Value)(hd:Nat.blt d E.N.n=true)(k: ∀b,RG E ops Q rest (ki V kv b none [] []::O) ((d,tV (oA b))::G)):
  RG E ops Q (⟨some d,.makeMap t none,ty,pos,after,none⟩::rest) O G:= .of rfl fun a w S st=>by
 obtain⟨he,hs',hno⟩:=fX (w:=w) (.map #[] 0) st.sat
 have hrun:(execOp a.eval ⟨some d,.makeMap t none,ty,pos,after,none⟩).run E.P w= .ok (.value (oA w.heap.size)) (w.alloc (.map #[] 0)):=by
  simp [execOp,Instr.makeMap,oA]
 refine⟨fun c h=>(by cases h),?_⟩
 rw [hrun]
 exact k w.heap.size _ _ S ⟨st.ext.step0 he,hs',pO st.own he ⟨hno,fun _ h=>(by cases h),#[],0,wP w _,trivial,MapKept.stamped_empty 0⟩ (fun b hb=>by
  rcases hb with rfl|⟨_,h,_⟩
  ·exact dn _
  ·cases h) st.base_le,st.facts.put hd rfl⟩
theorem m9{kk:Value}{es:Array MapEntry}{clock:Nat}{q:TypeDesc}{z:Value}{u:Option (Nat×Value)}(hm:P.underlying t=some (.map kt et))(hq:P.underlying kt=some q)(hk:MapKept.IsKey q kk)(hb:w.heap[b]? =some (.map es clock))(hz:ZV P et z)(hf:Instr.findNow q kk es.toList 0=some u)(c:Bool):(Instr.lookup t (oA b) kk c).run P w= .ok (if c then .tuple #[(u.map (·.2)).getD z,.bool u.isSome]else(u.map (·.2)).getD z) w:=by
 cases u with
 |none=>simp [Instr.lookup,oA,lA hm,Ns hb,Np hq hk,MapKept.run_findKey hq hf,hz.run,Result.andThen]
 |some r=>simp [Instr.lookup,oA,lA hm,Ns hb,Np hq hk,MapKept.run_findKey hq hf,Result.andThen]
theorem ED{γ:β→Ty}{z:β}{zv:Value}(hm:E.P.underlying t=some (.map kt et))(hk:Fv E.P kt kv)(hz:ZV E.P et zv)(hzt: ∀S,(γ z).p S zv)(hmem:ki (uz γ) kv b none os m∈O)(hx:aH E.N G x (tV (oA b)))(hi:Hl E.N G i (kv k)):
  bQ E O G ⟨dst,.lookup t x i false,ty,pos,after,g⟩ (γ ((kD m k).getD z)):= .of_pure fun a w S hs ho hf=>by
 obtain⟨⟨_,_,es,clock,h3,h4,_⟩,_⟩:=cM.mem ho _ hmem
 obtain⟨q,hq,hd,hinj⟩:=hk
 have h1:a.eval x=oA b:=hx S a hf
 have h2:a.eval i=kv k:=hi S a hf
 obtain⟨_,_,_,h5⟩:=qB hd hinj (k:=k) 0 h4
 rcases h5 with⟨g1,g2⟩|⟨y,o,e,j,g1,g2,g3,g4,g5⟩
 ·refine⟨zv,by simp [execOp,h1,h2,m9 hm hq (hd k) h3 hz g2],by rw [g1];exact hzt S⟩
 ·refine⟨e.val,by simp [execOp,h1,h2,m9 hm hq (hd k) h3 hz g4],by rw [g1];exact g3.2⟩
theorem Kg{γ:β→Ty}{z:β}{zv:Value}(hm:E.P.underlying t=some (.map kt et))(hk:Fv E.P kt kv)(hz:ZV E.P et zv)(hzt: ∀S,(γ z).p S zv)(hmem:ki (uz γ) kv b none os m∈O)(hx:aH E.N G x (tV (oA b)))(hi:Hl E.N G i (kv k)):
  bQ E O G ⟨dst,.lookup t x i true,ty,pos,after,g⟩ (tT [γ ((kD m k).getD z),tD rB (kD m k).isSome]):= .of_pure fun a w S hs ho hf=>by
 obtain⟨⟨_,_,es,clock,h3,h4,_⟩,_⟩:=cM.mem ho _ hmem
 obtain⟨q,hq,hd,hinj⟩:=hk
 have h1:a.eval x=oA b:=hx S a hf
 have h2:a.eval i=kv k:=hi S a hf
 obtain⟨_,_,_,h5⟩:=qB hd hinj (k:=k) 0 h4
 rcases h5 with⟨g1,g2⟩|⟨y,o,e,j,g1,g2,g3,g4,g5⟩
 ·refine⟨.tuple #[zv,.bool false],by simp [execOp,h1,h2,m9 hm hq (hd k) h3 hz g2],[zv,.bool false],rfl,by rw [g1];exact hzt S,iE.2 (by rw [g1];rfl),trivial⟩
 ·refine⟨.tuple #[e.val,.bool true],by simp [execOp,h1,h2,m9 hm hq (hd k) h3 hz g4],[e.val,.bool true],rfl,by rw [g1];exact g3.2,iE.2 (by rw [g1];rfl),trivial⟩
theorem BD{kk:Value}{es:Array MapEntry}{clock:Nat}{q:TypeDesc}{val:Value}(hm:P.underlying t=some (.map kt et))(hq:P.underlying kt=some q)(hk:MapKept.IsKey q kk)(hb:w.heap[b]? =some (.map es clock)):
  (Instr.findNow q kk es.toList 0=some none→(Instr.mapUpdate t (oA b) kk val).run P w= .ok () {w with heap:=w.heap.setIfInBounds b (.map (es.push ⟨kk,val,clock⟩) (clock+1))})∧
  (∀j e,Instr.findNow q kk es.toList 0=some (some (j,e))→(∀e',es.toList[j]? =some e' →e'.key=kk)→(∃e',es.toList[j]? =some e')→(Instr.mapUpdate t (oA b) kk val).run P w= .ok () {w with heap:=w.heap.setIfInBounds b (.map (es.modify j fun e=>{e with key:=kk,val:=val}) clock)}):=by
 refine⟨fun hf=>?_,fun j e hf hj he=>?_⟩
 ·simp [Instr.mapUpdate,oA,lA hm,Ns hb,Np hq hk,MapKept.run_findKey hq hf,MapKept.run_setObj_map _ hb,Result.andThen]
 ·obtain⟨e',he'⟩:=he
  have h1:=hj e' he'
  have h2:es[j]? =some e' :=by simpa using he'
  simp [Instr.mapUpdate,oA,lA hm,Ns hb,Np hq hk,MapKept.run_findKey hq hf,MapKept.run_setObj_map _ hb,Result.andThen,h2,h1,MapKept.run_keyThatStays hk]
theorem GM{y:β}{o:Option Nat×Nat}{val:Value}(hs:jp w S)(hm:E.P.underlying t=some (.map kt et))(hk:Fv E.P kt kv)(hp:(ki V kv b (some k) os m).p w S)(hv:V.p w S y o val)(hob:o.1≠some b)(hap: ∀o' ∈os,∀j,o.1=some j→o'.1≠some j):
  ∃w' os',(Instr.mapUpdate t (oA b) (kv k) val).run E.P w= .ok () w' ∧fY (fun j=>j=b) w S w' S∧jp w' S∧(ki V kv b none os' (cY m k y)).p w' S∧(∀j,(ki V kv b none os' (cY m k y)).fp j→(ki V kv b (some k) os m).fp j∨o.1=some j):=by
 obtain⟨hno,hnb,es,clock,h3,h4,hst⟩:=hp
 obtain⟨q,hq,hdk,hinj⟩:=hk
 obtain⟨os',p1,p2⟩:=G0 hdk hinj (born:=clock) hv 0 h4 hap
 have hnb' : ∀o' ∈os',o'.1≠some b:=fun o' ho' =>by
  rcases p1 o' ho' with h|rfl
  ·exact hnb o' h
  ·exact hob
 have hfp: ∀j,(j=b∨ ∃o∈os',o.1=some j)→(j=b∨ ∃o∈os,o.1=some j)∨o.1=some j:=fun j hj=>by
  rcases hj with h|⟨o',ho',e⟩
  ·exact .inl (.inl h)
  ·rcases p1 o' ho' with h|rfl
   ·exact .inl (.inr ⟨o',h,e⟩)
   ·exact .inr e
 have hw: ∀X:Obj,fY (fun j=>j=b) w S {w with heap:=w.heap.setIfInBounds b X} S∧jp {w with heap:=w.heap.setIfInBounds b X} S∧({w with heap:=w.heap.setIfInBounds b X}:World).heap[b]? =some X:=fun X=>
  ⟨⟨rfl,rfl,rfl,dn _,by simp,fun j _ hj=>(MapKept.heap_set (o' :=X) h3).2 j hj,SH.le_refl _,fun _ _ _=>rfl⟩,hs.same fun j o hj=>(MapKept.heap_set (o' :=X) h3).2 j (fun e=>by subst e;rw [hno]at hj;cases hj),(MapKept.heap_set h3).1⟩
 obtain⟨r1,r2⟩:=BD (val:=val) hm hq (hdk k) h3
 rcases p2 with⟨j,e,g1,g2,g3,g4⟩|⟨g1,g2⟩
 ·rw [uo]at g1
  obtain⟨x1,x2,x3⟩:=hw (.map (es.modify j fun e=>{e with key:=kv k,val:=val}) clock)
  refine⟨_,os',r2 j _ g1 (fun e' he' =>by rw [g2]at he';cases he';exact g3) ⟨_,g2⟩,x1,x2,⟨hno,hnb',_,_,x3,?_,MapKept.stamped_modify hst j _ (fun _ _=>rfl) (fun e' _ he' =>by rw [←Array.getElem?_toList,g2]at he';cases he';exact g3.symm)⟩,hfp⟩;refine A6 x1 (by rw [Array.toList_modify];exact g4) fun o' ho' j hj e=>?_
  subst e
  exact hnb' o' ho' hj
 ·obtain⟨x1,x2,x3⟩:=hw (.map (es.push ⟨kv k,val,clock⟩) (clock+1))
  refine⟨_,os',r1 g1,x1,x2,⟨hno,hnb',_,_,x3,?_,MapKept.stamped_push hst (fun x hx e=>?_)⟩,hfp⟩
  rotate_left
  ·exact PG hdk h4 g1 hx e
  refine A6 x1 (by rw [Array.toList_push];exact g2) fun o' ho' j hj e=>?_
  subst e
  exact hnb' o' ho' hj
theorem VP{γ:β→Ty}{y:β}(hm:E.P.underlying t=some (.map kt et))(hk:Fv E.P kt kv)(hx:aH E.N G x (tV (oA b)))(hi:Hl E.N G i (kv k))(hv:aH E.N G v (γ y))
  (h: ∀os',RG E ops Q rest (ki (uz γ) kv b none os' (cY m k y)::O) G):
  RG E ops Q (⟨none,.mapUpdate t x i v,ty,pos,after,none⟩::rest) (ki (uz γ) kv b none os m::O) G:= .of rfl fun a w S st=>by
 have h1:a.eval x=oA b:=hx S a st.facts
 have h2:a.eval i=kv k:=hi S a st.facts
 have h3:(γ y).p S (a.eval v):=hv S a st.facts
 obtain⟨⟨hp,hfp⟩,hap,hO⟩:=st.own
 obtain⟨hno,hnb,es,clock,e3,e4,hst⟩:=hp
 obtain⟨q,hq,hdk,hinj⟩:=hk
 obtain⟨os1,p1,p2,_⟩:=qB hdk hinj (k:=k) 0 e4
 have hnb1: ∀o∈os1,o.1≠some b:=fun o ho=>by
  rcases p1 o ho with h|h
  ·exact hnb o h
  ·rw [h];exact fun e=>by cases e
 obtain⟨w',os',r,x1,x2,x3,x4⟩:=GM (V:=uz γ) (E:=E) (y:=y) (o:=(none,0)) (val:=a.eval v) st.sat hm ⟨q,hq,hdk,hinj⟩ ⟨hno,hnb1,es,clock,e3,p2,hst⟩ ⟨rfl,h3⟩ (fun e=>by cases e) (fun _ _ _ e=>by cases e)
 have hrun:(execOp a.eval ⟨none,.mapUpdate t x i v,ty,pos,after,none⟩).run E.P w= .ok .skip w' :=by simp [execOp,h1,h2,r]
 refine⟨fun c h=>(by cases h),?_⟩
 rw [hrun]
 have hfp' : ∀j,(ki (uz γ) kv b none os' (cY m k y)).fp j→(ki (uz γ) kv b none os m).fp j:=fun j hj=>by
  rcases x4 j hj with(h|⟨o,ho,e⟩)|e
  ·exact .inl h
  ·rcases p1 o ho with h|h
   ·exact .inr ⟨o,h,e⟩
   ·rw [h]at e;cases e
  ·cases e
 exact h os' _ _ S ⟨st.ext.step x1 (fun c hc=>hfp c (.inl hc)),x2,⟨⟨x3,fun j hj=>hfp j (hfp' j hj)⟩,fun f hf j hj=>hap f hf j (hfp' j hj),hO.ext x1 fun f hf j hj hjb=>hap f hf j (.inl hjb) hj⟩,st.facts⟩
end

def zB(tmps:Array Value):ResultVar→Sem Value
 | .tmp t=>pure (tmps.getD t undef)
 | .cell a t=>do loadVar t (←asAddr (tmps.getD a undef))
def OU(P:Program)(N:Fr)(G:mg)(rv:ResultVar)(t:Ty):Prop:= ∀a w S,jp w S→cT N S a G→ ∃v,(zB a.tmps rv).run P w= .ok v w∧t.p S v
theorem aZ{N:Fr}{k:Nat}{t:Ty}(hk:di G k=some t):OU P N G (.tmp k) t:=fun a w S _ hf=>⟨_,rfl,hf.at_ k t hk⟩
theorem br{N:Fr}{k:Nat}{x:α}(ti:TI P T sz bytes agg z)(hsz:r.sz=sz)(hag:r.agg=agg)(hk:di G k=some (bM r x)):OU P N G (.cell k T) (tD r x):=fun a w S hs hf=>by
 obtain⟨b,off,c,U,fr,h1,h2,h3⟩:=hf.at_ k _ hk
 obtain⟨c',h4,h5⟩:=hs.part h2 (r.len h3)
 rw [←h5]at h3
 have hl:=lG ti h4 hsz hag h3
 have h1' :a.tmps[k]?.getD undef=Value.pointer (some ⟨b,off,none⟩):=by simpa [I1] using h1
 exact⟨_,by simp [zB,h1',asAddr,hl],_,rfl,h3⟩
def Qc(P:Program)(N:Fr)(G:mg):List ResultVar→List Ty→Prop
 |[],[]=>True
 |rv::rvs,t::ts=>OU P N G rv t∧Qc P N G rvs ts
 |_,_=>False
theorem Qc.run{N:Fr}(hs:jp w S)(hf:cT N S a G): ∀{rvs:List ResultVar} {ts:List Ty},Qc P N G rvs ts→ ∃vs,(rvs.mapM (zB a.tmps)).run P w= .ok vs w∧wD S ts vs∧vs.length=rvs.length
 |[],[],_=>⟨[],rfl,trivial,rfl⟩
 |rv::rvs,t::ts,⟨h1,h2⟩=>by
  obtain⟨v,g1,g2⟩:=h1 a w S hs hf
  obtain⟨vs,k1,k2,k3⟩:=Qc.run hs hf h2
  exact⟨v::vs,by simp [List.mapM_cons,g1,k1,Result.andThen],⟨g2,k2⟩,by simp [k3]⟩
theorem bS{rvs:List ResultVar}(hr:fn.results=rvs.toArray)(h1:Nat.beq rvs.length 1=false)(h:Qc P ⟨N,[]⟩ G rvs ts):
  AT ⟨P,⟨N,[]⟩,B,w0,S0,none⟩ (bodyPost P fn (MS ⟨P,⟨N,[]⟩,B,w0,S0,none⟩ (tT ts))) .ret O G:=fun a w S st=>by
 obtain⟨vs,k1,k2,k3⟩:=h.run st.sat st.facts
 have hne: ¬vs.length=1:=by rw [k3];intro e;rw [e]at h1;cases h1
 refine⟨st.facts.defers,.tuple vs.toArray,?_,_,S,rfl,st.ext,st.sat,vs,rfl,k2⟩
 have e1:(fn.results.mapM (zB a.tmps)).run P w= .ok vs.toArray w:=by
  rw [hr,List.mapM_toArray,Sem.run_map,k1]
  rfl
 have e3:results fn a.tmps=((fn.results.mapM (zB a.tmps))>>=fun vs=>pure (if h:vs.size=1 then vs[0]else .tuple vs)):=rfl
 rw [e3,wu,e1]
 simp [Result.andThen,hne]

theorem QN{v:Value}(h:(tD (fH r) xs).p S v):(fH r).rc S [v] xs:=by
 obtain⟨cs,e,h2⟩:=h
 obtain⟨a,cap,e2,h3⟩:=h2
 subst e2
 rw [e]
 exact⟨a,cap,rfl,h3⟩
section
variable{ty:TypeId}
theorem qo{r:Rp β}{get:β→Value}{x:β}{p:Operand}(ti:TI E.P U 1 bytes false z)(hget:pC r off rV get)(hm:bx r T b x∈O)(hv:get x=aO l cap n)(hp:aH E.N G p (tV (aP b off))):
  bQ E O G ⟨dst,.load U p,ty,pos,after,g⟩ (tV (aO l cap n)):=(ce (q:=rV) ti rfl rfl hget hm hp).imp fun _ _ h=>by rw [←hv];exact(vC.1 h).1
theorem BN{q:Rp α}{r:Rp β}{get:β→Value}{x:β}{V:TypeId}{p:Operand}(ti:TI E.P U 1 bytes false z)(hget:pC r off rV get)(hm:bx r T b x∈O)(hm2:dS q V l cap xs∈O)(hv:get x=aO l cap xs.length)(hp:aH E.N G p (tV (aP b off))):
  bQ E O G ⟨dst,.load U p,ty,pos,after,g⟩ (tO q l cap xs):=fun a w S hs ho hf=>
 oj (fun _ _ ⟨v,S',h1,h2,h3,h4⟩=>⟨v,S',h1,h2,h3,h4,by
  have h5:v=aO l cap xs.length:=h4
  rw [h5]
  exact pI (((ho.ext0 h2).mem _ hm2).1)⟩) (qo (g:=g) (ty:=ty) (pos:=pos) (after:=after) (dst:=dst) ti hget hm hv hp a w S hs ho hf)
theorem oI{o:Nat}{p:Operand}(hf:cU E.P T i=some (off,sz))(h0:Nat.beq sz 0=false)(hp:aH E.N G p (tV (aP b o)))(he:o+off=n):bQ E O G ⟨dst,.fieldAddr T p i,ty,pos,after,g⟩ (tV (aP b n)):=by
 subst he
 exact F3 hf h0 hp
theorem zI{q:Rp α}{r:Rp β}{x:β}{p:Operand}(ti:TI E.P U sz bytes agg z)(hsz:q.sz=sz)(hag:q.agg=agg)(hag2:r.agg=agg)(hsz2:r.sz=sz)(hm:bx r T b x∈O)(hc: ∀w S cs,cM E.base E.B w S O→r.rc S cs x→q.rc S cs y)(hp:aH E.N G p (tV (aP b 0))):
  bQ E O G ⟨dst,.load U p,ty,pos,after,g⟩ (tD q y):= .of_pure fun a w S _ ho hf=>by
 have h1:a.eval p=aP b 0:=hp S a hf
 obtain⟨⟨_,cur,h5,h6⟩,_⟩:=ho.mem _ hm
 have h7:=hc w S _ ho h6
 have hl:=q.len h7
 have h8:q.rc S ((cur.toList.drop 0).take q.sz) y:=by rw [yC,rF (by omega)];exact h7
 exact⟨_,by simp [execOp,h1,aP,Instr.loadAt,Instr.sureAddr,lG ti h5 hsz hag h8],_,rfl,h8⟩
theorem De{q:Rp α}{V:TypeId}(ho:cM base B w S O)(hm:dS q V l cap xs∈O):(fH q).rc S [aO l cap xs.length] xs:=QN (pI (ho.mem _ hm).1)
end
def uk{α β γ:Type}(r:Rp α)(r' :Rp γ)(off:Nat)(q:Rp β)(x:α)(y:β)(x' :γ):Prop:= ∀S cs ds,r.rc S cs x→q.rc S ds y→r'.rc S (cs.take off++ds++cs.drop (off+q.sz)) x'
theorem zu{set:α→β→α}{x:α}{y:β}(h:jR r off q set):uk r r off q x y (set x y):=fun S cs ds h1 h2=>h S cs x ds y h1 h2
theorem uQ{r' :Rp γ}{x:α}{y:γ}(hs:r.sz=r'.sz):uk r r' 0 r' x y y:=fun S cs ds h1 h2=>by
 have hl:=r.len h1
 rw [List.take_zero,kz,DA (by omega),sy]
 exact h2
theorem NI{α' :Type}{p:Rp α}{p' :Rp α'}{x:α×β}{y:γ}{x1:α'}(h:uk p p' 0 u x.1 y x1)(hu:Nat.ble u.sz p.sz=true):uk (cQ p q) (cQ p' q) 0 u x y (x1,x.2):=fun S cs ds ⟨a,b,e,h1,h2⟩ hd=>by
 have hl:=p.len h1
 have hu' :=oT hu
 have h3:=h S a ds h1 hd
 subst e
 rw [List.take_zero,kz,uo,Gp (by omega),←jK]
 rw [List.take_zero,kz,uo]at h3
 exact⟨_,_,rfl,h3,h2⟩
theorem kU{β' :Type}{p:Rp α}{q' :Rp β'}{x:α×β}{y:γ}{off' :Nat}{x2:β'}(h:uk q q' off u x.2 y x2)(ho:off' =p.sz+off):uk (cQ p q) (cQ p q') off' u x y (x.1,x2):=fun S cs ds ⟨a,b,e,h1,h2⟩ hd=>by
 have hl:=p.len h1
 have h3:=h S b ds h2 hd
 subst e ho
 refine⟨a,_,?_,h1,h3⟩
 have e1:p.sz+off-a.length=off:=by omega
 have e2:p.sz+off+u.sz-a.length=off+u.sz:=by omega
 rw [List.take_append,List.drop_append,rF (by omega),DA (by omega),e1,e2]
 simp
theorem Da{α' β' :Type}{p:Rp α}{p' :Rp α'}{f:β→α}{f' :β' →α'}{x:β}{x' :β'}{y:γ}{z:α'}(h:uk p p' off u (f x) y z)(e:f' x' =z):uk (px p f) (px p' f') off u x y x' :=fun S cs ds h1 h2=>by
 show p'.rc S _ (f' x')
 rw [e]
 exact h S cs ds h1 h2
section
variable{e:Exit}{ty:TypeId}
theorem tm{r' :Rp γ}{x:α}{x' :γ}{y:β}{p v:Operand}(ti:TI E.P U sz bytes agg z)(hsz:q.sz=sz)(hset:uk r r' off q x y x')(hoff:Nat.ble (off+q.sz) r.sz=true)(hp:aH E.N G p (tV (aP b off)))(hv:aH E.N G v (tD q y))(k:RG E ops Q rest (bx r' T b x' ::O) G):RG E ops Q (⟨none,.store U p v,ty,pos,after,none⟩::rest) (bx r T b x::O) G:= .of rfl fun a w S st=>by
 have h1:a.eval p=aP b off:=hp S a st.facts
 obtain⟨ds,h2,h3⟩:=hv S a st.facts
 obtain⟨⟨hno,cur,h5,h6⟩,_⟩:=st.own.1
 have hl:=r.len h6
 have hoff' :=oT hoff
 obtain⟨w',hr,e1,e2,e3,e4,e5,e6⟩:=kJ ti hsz h3 h5 (off:=off) (by simp at hl;omega)
 have hrun:(execOp a.eval ⟨none,.store U p v,ty,pos,after,none⟩).run E.P w= .ok .skip w' :=by
  simp [execOp,h1,h2,Instr.storeAt,aP,Instr.sureAddr,hr]
 refine⟨fun c h=>(by cases h),?_⟩
 rw [hrun]
 obtain⟨g1,g2,g3⟩:=ql (O:=O) st.sat (bx r T b x) (bx r' T b x') st.own (fun _=>Iff.rfl) (fun _=>Iff.rfl) ⟨e1,e2,e3,e4.1,e4.2⟩ e6 ⟨hno,_,e5,by simpa using hset S _ _ h6 h3⟩ hno
 exact k _ _ S ⟨st.ext.step g1 (fun c hc=>st.own.1.2 c hc),g2,g3,st.facts⟩
end

section
variable{b:Frame}{k:List Item}{cs:List Frame}{F:Fence}
theorem pf:step P (lone (b.atR a (.code (.scope c)::k)) cs w)= .next (lone (b.atR a (.code c:: .inScope c::k)) cs w):=
 step_lone_go (by simp [stepG,stepG.exec,Frame.atR])
theorem FQ:step P (lone (b.atR a (.inScope c::k)) cs w)= .next (lone (b.atR a k) cs w):=
 step_lone_go (by simp [stepG,stepG.exec,Frame.atR])
theorem LC(h:c.wpIn F n P (Exit.noGoto Q) a w):(Code.scope c).wpIn F n P Q a w:=by
 intro b k cs hro hb hr
 have h0:(lone (b.atR a (.code (.scope c)::k)) cs w).fenced P F:=fenced_calm hb hr rfl
 obtain⟨e,a₁,w₁,hq,harr⟩:=h b (.inScope c::k) cs hro hb hr
 cases e with
 |normal=>exact⟨.normal,a₁,w₁,hq,.head h0 pf (StepsIn.trans harr (.one (fenced_calm hb hr rfl) FQ))⟩
 |exit id=>
  have hx:exitTo id (.inScope c::k)=exitTo id k:=by simp [exitTo]
  exact⟨.exit id,a₁,w₁,hq,fun k' hk=> .head h0 pf (harr.1 k' (by rw [hx];exact hk)),
   fun hr' hk=>let⟨k₁,h1,h2⟩:=harr.2 hr' (by rw [hx];exact hk);⟨k₁,h1,.head h0 pf h2⟩⟩
 |goto l=>exact hq.elim
 |ret=>exact⟨_,a₁,w₁,hq,.of_steps (.one h0 pf) harr⟩
 |panic ch=>exact⟨_,a₁,w₁,hq,.of_steps (.one h0 pf) harr⟩
 |outgrown=>exact⟨_,a₁,w₁,hq,.of_steps (.one h0 pf) harr⟩
end
section
theorem Lq(h:CG E (Exit.noGoto Q) c O G):CG E Q (.scope c) O G:=fun a w S st=>LC (h a w S st)
theorem Lr{l:Nat}(h:AT E Q .normal O G):CG E Q (.label l) O G:=fun a w S st=>wpIn_label (h a w S st)
theorem yA(h:AT E Q .ret O G):AT E (Exit.noGoto Q) .ret O G:=h
end

theorem Io [Inhabited α](h:i<m):pC (uy r m) (i*r.sz) r (fun x=>(x[i]?).getD default):=fun S cs x ⟨h1,h2⟩=>by
 have hi:x[i]? =some ((x[i]?).getD default):=by rw [ox (by omega)];rfl
 exact Dd h2 hi
theorem Vx [DecidableEq α] [Inhabited α]{t e:Nat}(ht:P.underlying t=some (.array m e))(ti:TI P e sz bytes agg z)(hsz:r.sz=sz)(hag:r.agg=agg)(he:rk P e r n):rk P t (uy r m) (n+1):=fun S cs ds x y d w hx hy=>by
 obtain⟨i,zv,hi,hs,_⟩:=ti.get
 have hcell:P.cellsOf e=r.sz:=by unfold Program.cellsOf;rw [hi];simp [hs,hsz]
 have e1:(uy r m).val cs= .agg cs.toArray:=rfl
 have e2:(uy r m).val ds= .agg ds.toArray:=rfl
 rw [e1,e2,show d+(n+1)=(d+n)+1 from rfl,run_equalIn_array w (d+n) cs.toArray ds.toArray ht hi,List.range_eq_range',hcell]
 have key: ∀k j,j+k=m→(Op.eqItems (d+n) e r.sz cs.toArray ds.toArray (List.range' j k)).run P w= .ok (decide (x.drop j=y.drop j)) w:=by
  intro k
  induction k with
  |zero=>
   intro j hj
   rw [DA (by have:=hx.1;omega),DA (by have:=hy.1;omega)]
   rfl
  |succ k ih=>
   intro j hj
   have hjx:j<x.length:=by have:=hx.1;omega
   have hjy:j<y.length:=by have:=hy.1;omega
   have h1:=rN ti hsz hag (Io (r:=r) (m:=m) (i:=j) (by omega)) hx w
   have h2:=rN ti hsz hag (Io (r:=r) (m:=m) (i:=j) (by omega)) hy w
   have h3:=he S _ _ _ _ d w (Io (r:=r) (m:=m) (i:=j) (by omega) S cs x hx) (Io (r:=r) (m:=m) (i:=j) (by omega) S ds y hy)
   rw [List.range'_succ]
   unfold Op.eqItems
   simp only [wu,h1,h2,h3,yD]
   have ex:x.drop j=(x[j]?).getD default::x.drop (j+1):=by rw [ox hjx];exact wz hjx
   have ey:y.drop j=(y[j]?).getD default::y.drop (j+1):=by rw [ox hjy];exact wz hjy
   rw [ex,ey]
   by_cases hq:(x[j]?).getD default=(y[j]?).getD default
   ·simp only [hq,Cj,mi,fZ,d9]
    rw [ih (j+1) (by omega)]
    congr 1
    simp
   ·simp [hq]
 have:=key m 0 (by omega)
 simpa using this
section
variable{ty:TypeId}
theorem GJ{xs:List Operand}{sz' bytes' :Nat}{agg' :Bool}{z' :List Value}(ht:E.P.underlying t=some (.array m T))(ti:TI E.P T sz bytes agg z)(hsz:r.sz=sz)(tj:TI E.P t sz' bytes' agg' z')(hz:z'.length=m*r.sz)(hm:m=ys.length)(hx:jC E.N G xs (ys.map (tD r))):bQ E O G ⟨dst,.build t (zb 0 xs).toArray,ty,pos,after,g⟩ (tD (uy r m) ys):=
 .of_pure fun a w S _ _ hF=>by
  obtain⟨zv,hzr,hzc⟩:=tj.zero w
  obtain⟨cs,hc,hfill⟩:=E3 ys (xs.map a.eval) 0 [] z' (hx.tys hF) (by simp) (by rw [hz,hm])
  subst hsz
  have hparts:((zb 0 xs).toArray.map fun(i,x)=>(i,a.eval x)).toList=CN 0 (xs.map a.eval):=by simpa using BY a.eval 0 xs
  rw [kz,kz]at hfill
  refine⟨.agg cs.toArray,?_,cs,rfl,hm.symm,hc⟩
  simp only [execOp,Instr.build,wu,hzr,yD,lA ht,ti.sizeOf,hzc,hparts,hfill]
  simp
end
end Go.Proofs.YtfhhakidodmdfaaGreatDoor

