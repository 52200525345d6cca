/- cU of this claim: W16, W17, W18, W19, W20, W22, W23, W24, W25, W26, W28, W30, W31, W32. -/
import Derived.Test.YtfhhakidodmdfaaGreatDoorJfV1
import Derived.RangeFuncRecord
import Derived.RangeFuncLeaves
import Derived.Laws.StructEq
import Derived.Lib.ConvBytes
import Derived.Lib.AppendZeros
import Derived.Laws.MakeOwn
import Derived.MapKept
import Derived.Scope
import Derived.ChangeKeysEq
set_option linter.all false
namespace Go.Proofs.YtfhhakidodmdfaaGreatDoor
open Go

def nZ(L:List Oper):Nat→Nat→Nat→Bool
 |0,_,_=>false
 |n+1,i,j=>match L[i]? with
  |some o=>o.after.toList.any fun e=>Region.binds .any e&&(Nat.beq e.on j||nZ L n e.on j)
  |none=>false
def wV(L:List Oper)(m:Nat):Bool:=(List.range m).all fun j=>nZ L L.length m j
def zT(L:List Oper)(n k:Nat):Bool:=(List.range k).all fun m=>wV L (n+m)&&(match L[n+m]? with|some o=>eN (n+m) o&&o.guard.isNone|none=>false)
variable{L:List Oper}{done:Array Bool}{e:TypeId}{hi:Int}{i:Nat}{j:Int}{n:Nat}{o:Oper}
theorem gw{L:List Oper}{done:Array Bool}(down: ∀j o,L[j]? =some o→done.getD j false=true→ ∀e∈o.after,Region.binds .any e=true→done.getD e.on false=true):
  ∀(n i j:Nat),(∀o,L[i]? =some o→ ∀e∈o.after,Region.binds .any e=true→done.getD e.on false=true)→nZ L n i j=true→done.getD j false=true
 |0,_,_,_,h=>by cases h
 |n+1,i,j,hi,h=>by
  unfold nZ at h
  cases ho:L[i]? with
  |none=>rw [ho]at h;cases h
  |some o=>
   rw [ho]at h
   obtain⟨e,he0,hb⟩:=uB.1 h
   have he:e∈o.after:=by simpa using he0
   rw [my,pZ]at hb
   have hd:=hi o ho e he hb.1
   rcases hb.2 with h1|h1
   ·rw [←o7 h1];exact hd
   ·exact gw down n e.on j (fun p hp=>down e.on p hp hd) h1
variable{E:En}{G:nm}{O:List OE}{S S' :SH}{a:Act}{d:Nat}{k:IntKind}{l:Option Nat}{t:TypeId}{ts:List Ty}{γ:Type}{u:Rp γ}{w w' :World}
theorem DJ.stepT{l:List Oper}(h:DJ E O G l ts done a w S){t:Ty}{v:Value}(hi:l[i]? =some o)(hd:o.dst=some d)(hdN:d<E.N.n)(hs2: ∀j p,l[j]? =some p→done.getD j false=true→p.dst=some d→i=j)(hwait: ∀e∈o.after,Region.binds .any e=true→done.getD e.on false=true)(ht:ts[i]? =some t)(hun:done.getD i true=false)(hext:gn p9 w S w' S')(hsat:jL w' S')(hv:t.p S' v):DJ E O G l ts (done.setIfInBounds i true) (a.put o.dst v) w' S' :=by
 have hda:d<a.tmps.size:=by rw [h.size];exact hdN
 have hlt:i<done.size:=by rw [h.dsz];exact(ke.1 hi).1
 have hset: ∀j,(done.setIfInBounds i true).getD j false=true→j=i∨done.getD j false=true:=fun j hj=>by
  by_cases hij:i=j
  ·exact .inl hij.symm
  ·rw [vp false hij]at hj;exact .inr hj
 have hseti:(done.setIfInBounds i true).getD i false=true:=by simp [hlt]
 have hun' :done.getD i false=false:=by simp [hlt]at hun ⊢;exact hun
 refine⟨h.ext.step0 hext,hsat,h.own.ext0 hext,?_,?_,by simp [h.dsz],fun j p hj hdone e he hb=>?_,fun k u hk hno=>?_,fun j p d' u hj hdone hd' hu=>?_⟩
 ·rw [hd];simp [Act.put,h.size]
 ·rw [hd];exact h.defers
 ·rcases hset j hdone with rfl|hj'
  ·rw [hi]at hj
   have:o=p:=by simpa using hj
   subst this
   exact wj (hwait e he hb)
  ·exact wj (h.down j p hj hj' e he hb)
 ·have hne:d≠k:=fun e=>hno i o hi hseti (by rw [hd,e])
  rw [hd,rG hda,aK hne]
  exact u.mono hext.keep (h.old k u hk fun j p hj hdone=>hno j p hj (wj hdone))
 ·rw [hd,rG hda]
  rcases hset j hdone with rfl|hj'
  ·rw [hi]at hj
   have:o=p:=by simpa using hj
   subst this
   rw [hd]at hd'
   have:d=d' :=by simpa using hd'
   subst this
   rw [aY rfl]
   rw [ht]at hu
   have:t=u:=by simpa using hu
   subst this
   exact hv
  ·have hne:d≠d' :=fun e=>by
    subst e
    have:=hs2 j p hj hj' hd'
    subst this
    rw [hj']at hun';cases hun'
   rw [aK hne]
   exact u.mono hext.keep (h.new j p d' u hj hj' hd' hu)
theorem oU(h:i<done.size):done.getD i true=done.getD i false:=by simp [h]
theorem uG(h:lG done=0)(hi:i<done.size):done.getD i false=true:=by
 unfold lG at h
 rw [List.countP_eq_zero]at h
 have h2:done[i]∈done.toList:=by simp
 have:=h _ h2
 rw [←oU hi]
 simpa [hi] using this
variable{P:Program}{Q:Exit→Act→World→Prop}{α:Type}{f:FuncId}{β:Type}{m:Nat}{q:Rp β}{r:Rp α}{rest:List Oper}{xs:List α}
theorem Aq{r:Option Nat}(hc: ∀m o,n≤m→L[m]? =some o→wV L m=true)(hedge: ∀m o,L[m]? =some o→eN m o=true):
  ∀(rest:List Oper) (m:Nat) (done:Array Bool) (fuel:Nat) (a:Act) (w:World),n≤m→L.drop m=rest→done.size=L.length→(∀j,j<L.length→(done.getD j false=true↔j<m))→lG done=fuel→
   wpListIn (fw r) 0 P L.toArray Q rest a w→wpAnyIn (fw r) 0 P .any L.toArray Q fuel done a w:=by
 intro rest
 induction rest with
 |nil=>
  intro m done fuel a w hnm hdrop hsz hdone hu h
  have hlen:L.length≤m:=Ib.1 hdrop
  have hr:Region.ready .any L.toArray done=[]:=by
   cases hr:Region.ready .any L.toArray done with
   |nil=>rfl
   |cons i r=>
    have hm:i∈Region.ready .any L.toArray done:=by rw [hr];exact kZ ..
    obtain⟨hun,o,ho,_⟩:=tB.1 hm
    have hi:i<L.length:=by simpa using (wp.1 ho).1
    have:=(hdone i hi).2 (by omega)
    rw [oU (by omega)]at hun
    rw [hun]at this;cases this
  cases fuel with
  |zero=>exact⟨hr,h⟩
  |succ f=>exact⟨fun _=>h,fun i hi=>by rw [hr]at hi;cases hi⟩
 |cons o rest ih=>
  intro m done fuel a w hnm hdrop hsz hdone hu h
  have hm:m<L.length:=by
   rcases nW m L.length with h' |h'
   ·exact h'
   ·rw [Ib.2 h']at hdrop;cases hdrop
  have hLm:L[m]? =some o:=by
   have:=xK (xs:=L) (i:=m) (j:=0)
   rw [hdrop]at this
   simpa using this.symm
  have hmu:done.getD m true=false:=by
   have hnot: ¬(done.getD m false=true):=fun h2=>by have:=(hdone m hm).1 h2;omega
   rw [oU (by omega)]
   exact Al _▸hnot
  have honly: ∀i∈Region.ready .any L.toArray done,i=m:=by
   intro i hi
   obtain⟨hun,p,hp,hwait⟩:=tB.1 hi
   have hp' :L[i]? =some p:=by simpa using hp
   have hil:i<L.length:=(ke.1 hp').1
   have hid: ¬i<m:=fun hlt=>by
    have h2:=(hdone i hil).2 hlt
    rw [oU (by omega)]at hun
    rw [hun]at h2;cases h2
   rcases nW m i with hlt|hge
   ·exfalso
    have hcov:=hc i p (by omega) hp'
    unfold wV at hcov
    have hre:=jW.1 hcov m (by simpa using hlt)
    have:done.getD m false=true:=by
     refine gw (L:=L) (done:=done) (fun j q hj hjd e he hb=>?_) _ i m (fun q hq e he hb=>?_) hre
     ·have hjl:j<L.length:=(ke.1 hj).1
      have hjm:=(hdone j hjl).1 hjd
      have:=hedge j q hj
      unfold eN at this
      have:=jW.1 this e (by simpa using he)
      simp only [hb,mL,rM,xq]at this
      exact(hdone e.on (by omega)).2 (by omega)
     ·have:q=p:=by rw [hp']at hq;simpa using hq.symm
      subst this
      exact hwait e he hb
    have:=(hdone m hm).1 this
    omega
   ·omega
  have hready:m∈Region.ready .any L.toArray done:=by
   rw [tB]
   refine⟨hmu,o,by simpa using hLm,fun e he hb=>?_⟩
   have:=hedge m o hLm
   unfold eN at this
   have:=jW.1 this e (by simpa using he)
   simp only [hb,mL,rM,xq]at this
   exact(hdone e.on (by omega)).2 this
  cases fuel with
  |zero=>
   have:=uG hu (i:=m) (by omega)
   have:=(hdone m hm).1 this
   omega
  |succ fuel=>
   refine⟨fun hr=>(by rw [hr]at hready;cases hready),fun i hi=>?_⟩
   have:=honly i hi
   subst this
   have hnext:=fun a w=>ih (i+1) (done.setIfInBounds i true) fuel a w (by omega) (by rw [←qL,hdrop];rfl) (by simpa using hsz) (fun j hj=>by
    by_cases hij:i=j
    ·subst hij;have:i<done.size:=by omega
     simp [this]
    ·rw [vp false hij,hdone j hj];omega) (by have:=qV hmu;omega)
   unfold wpOpIn
   have hLm' :L.toArray[i]? =some o:=by simpa using hLm
   rw [hLm']
   show if _ then _ else _
   unfold wpListIn at h
   by_cases hw:Region.wanted o (yielded L.toArray a.tmps)=true
   ·rw [aY hw]at h ⊢;exact Oper.wpIn_mono (fun a w hk=>hnext a w hk) h
   ·rw [aK hw]at h ⊢;exact⟨h.1,hnext _ _ h.2⟩
theorem Kd{l t:List Oper}(hsl:wx E.N.n [] l=true)(hlen:ts.length=l.length)(hd:DR E O G (l++t) ts 0 l)(ht:zT (l++t) l.length t.length=true)(hQ: ∀a w S,St E O (No l ts G) a w S→wpListIn (fw E.r) 0 E.P (l++t).toArray Q t a w):
  ∀(fuel:Nat) (done:Array Bool) (a:Act) (w:World) (S:SH),lG done=fuel→(∀j,l.length≤j→done.getD j false=false)→DJ E O G (l++t) ts done a w S→wpAnyIn (fw E.r) 0 E.P .any (l++t).toArray Q fuel done a w:=by
 have hL1: ∀i o,i<l.length→(l++t)[i]? =some o→l[i]? =some o:=fun i o hi h=>by rwa [Ao hi]at h
 have hL2: ∀i o,l[i]? =some o→(l++t)[i]? =some o:=fun i o h=>by rw [Ao (ke.1 h).1];exact h
 have htail: ∀m o,l.length≤m→(l++t)[m]? =some o→wV (l++t) m=true∧eN m o=true:=fun m o hm ho=>by
  have hml:m<(l++t).length:=(ke.1 ho).1
  rw [jg]at hml
  unfold zT at ht
  have:=jW.1 ht (m-l.length) (by simp;omega)
  rw [show l.length+(m-l.length)=m from by omega,ho]at this
  simp only [my]at this
  exact⟨this.1,this.2.1⟩
 have hedge: ∀i o,(l++t)[i]? =some o→eN i o=true:=fun i o hi=>by
  rcases nW i l.length with h|h
  ·obtain⟨_,_,_,_,_,h,_⟩:=DR.get l 0 hd i o (hL1 i o h hi)
   simpa using h
  ·exact(htail i o h hi).2
 obtain⟨hs1,hs2⟩:=xZ l [] hsl
 have fin: ∀fuel done a w S,lG done=fuel→(∀j,l.length≤j→done.getD j false=false)→DJ E O G (l++t) ts done a w S→(∀i,i<l.length→done.getD i false=true)→wpAnyIn (fw E.r) 0 E.P .any (l++t).toArray Q fuel done a w:=by
  intro fuel done a w S hu hfree h hall
  refine Aq (n:=l.length) (fun m o hm ho=>(htail m o hm ho).1) hedge t l.length done fuel a w (dh _) (by simp) h.dsz (fun j hj=>⟨fun hjd=>?_,fun hlt=>hall j hlt⟩) hu
   (hQ a w S ⟨h.ext,h.sat,h.own,h.size,h.defers,fun j u hj=>?_⟩)
  ·rcases nW j l.length with h' |h'
   ·exact h'
   ·rw [hfree j h']at hjd;cases hjd
  ·rcases Hy l ts j u (fun o ho e=>by obtain⟨d,hd,_⟩:=hs1 o ho;rw [hd]at e;cases e) hlen hj with⟨i,o,h1,h2,h3⟩|⟨h1,h2⟩
   ·exact h.new i o j u (hL2 i o h1) (hall i (ke.1 h1).1) h2 h3
   ·refine h.old j u h1 fun i o ho hdn=>?_
    rcases nW i l.length with h' |h'
    ·exact h2 o (rO (hL1 i o h' ho))
    ·rw [hfree i h']at hdn;cases hdn
 have lower: ∀done a w S i,(∀j,l.length≤j→done.getD j false=false)→DJ E O G (l++t) ts done a w S→i∈Region.ready .any (l++t).toArray done→l.length≤i→ ∀j,j<l.length→done.getD j false=true:=by
  intro done a w S i hfree h hi hge j hj
  obtain⟨hun,p,hp,hwait⟩:=tB.1 hi
  have hp' :(l++t)[i]? =some p:=by simpa using hp
  have hcov:=(htail i p hge hp').1
  unfold wV at hcov
  have hre:=jW.1 hcov j (by simp;omega)
  exact gw h.down _ i j (fun q hq e he hb=>by
   have:q=p:=by rw [hp']at hq;simpa using hq.symm
   subst this
   exact hwait e he hb) hre
 intro fuel
 induction fuel with
 |zero=>
  intro done a w S hu hfree h
  exact fin 0 done a w S hu hfree h fun i hi=>uG hu (by rw [h.dsz,jg];omega)
 |succ fuel ih=>
  intro done a w S hu hfree h
  by_cases hall: ∀i,i<l.length→done.getD i false=true
  ·exact fin _ done a w S hu hfree h hall
  have hready0: ∀m i,i<m→i<l.length→Region.ready .any (l++t).toArray done=[]→done.getD i false=true:=by
   intro m
   induction m with
   |zero=>intro i h;omega
   |succ m ihm=>
    intro i him hil hr
    have his:i<done.size:=by rw [h.dsz,jg];omega
    by_cases hdn:done.getD i true=true
    ·rw [←oU his];exact hdn
    ·exfalso
     obtain⟨o,ho⟩: ∃o,(l++t)[i]? =some o:=⟨l[i],hL2 i _ (oM hil)⟩
     have hmem:i∈Region.ready .any (l++t).toArray done:=by
      rw [tB]
      refine⟨by simpa using hdn,o,by simpa using ho,fun e he hb=>?_⟩
      have:=hedge i o ho
      unfold eN at this
      have:=jW.1 this e (by simpa using he)
      simp only [hb,mL,rM,xq]at this
      exact ihm e.on (by omega) (by omega) hr
     rw [hr]at hmem;cases hmem
  refine⟨fun hr=>absurd (fun i hi=>hready0 (i+1) i (by omega) hi hr) hall,fun i hi=>?_⟩
  have hil:i<l.length:=by
   rcases nW i l.length with h' |h'
   ·exact h'
   ·exact absurd (lower done a w S i hfree h hi h') hall
  obtain⟨hun,o,ho,hwait⟩:=tB.1 hi
  have ho' :(l++t)[i]? =some o:=by simpa using ho
  have hol:=hL1 i o hil ho'
  obtain⟨needs,u,h1,h2,h3,_,h5⟩:=DR.get l 0 hd i o hol
  rw [qS]at h1 h3
  have hF:=h.need ho' hun hwait h2 h3
  have h6:=h5 a w S h.sat h.own hF
  have hu' :lG (done.setIfInBounds i true)=fuel:=by have:=qV hun;omega
  obtain⟨d,hdd,hdN,_⟩:=hs1 o (rO hol)
  have huq: ∀j p,(l++t)[j]? =some p→done.getD j false=true→p.dst=some d→i=j:=fun j p hj hjd hpd=>by
   rcases nW j l.length with h' |h'
   ·exact hs2 i j o p hol (hL1 j p h' hj) (by rw [hdd,hpd])
   ·rw [hfree j h']at hjd;cases hjd
  have hfree' : ∀j,l.length≤j→(done.setIfInBounds i true).getD j false=false:=fun j hj=>by
   rw [vp false (by omega)];exact hfree j hj
  unfold wpOpIn
  rw [ho]
  show if _ then _ else _
  by_cases hw:Region.wanted o (yielded (l++t).toArray a.tmps)=true
  ·rw [aY hw]at h6 ⊢
   refine lq (fun a' w' ⟨v,S',ha,he,hs,hv⟩=>?_) h6
   subst ha
   exact ih _ _ _ S' hu' hfree' (h.stepT ho' hdd hdN huq hwait h1 hun he hs hv)
  ·rw [aK hw]at h6 ⊢
   exact⟨fun _ _=>trivial,ih _ _ _ S hu' hfree' (h.stepT ho' hdd hdN huq hwait h1 hun (gn.refl _ _ _) h.sat h6)⟩
theorem T0{id:Nat}{l t:List Oper}(hL:L=l++t)(hm:E.P.follows .mixedOrders=true)(hsl:wx E.N.n [] l=true)(hlen:ts.length=l.length)(ht:zT L l.length t.length=true)(hd:DR E O G L ts 0 l)(k:RG E L.toArray Q t O (No l ts G)):CG E Q (.region id L.toArray true) O G:=fun a w S st=>by
 subst hL
 refine wpIn_region_any hm ?_
 obtain⟨he,hs⟩:=yQ (w:=w) st.sat
 refine Kd hsl hlen hd ht (fun a w S st=>k a w S st) _ _ _ _ S ?_ (fun j _=>?_)
  ⟨st.ext.step0 he,hs,st.own.ext0 he,st.facts.size,st.facts.defers,by simp,fun j o hj hdone=>?_,fun k t hk _=>st.facts.at_ k t hk,fun j o d t hj hdone=>?_⟩
 ·unfold lG;rw [Oz,Ox];simp
 ·simp [An];split<;>rfl
 ·simp [An]at hdone
  split at hdone<;>simp at hdone
 ·simp [An]at hdone
  split at hdone<;>simp at hdone

abbrev It(α:Type):=(σ:Type)→(α→σ→Option (Bool×σ))→σ→Option σ

def qQ(Se:SH)(O:List OE):OE where
 fp:=fun k=> ∃f∈O,f.fp k
 p:=fun w S=>SH.le Se S∧cL 0 p9 w S O
 here:=fun⟨_,h⟩ _ ⟨f,hf,hk⟩=>f.here (cL.mem h f hf).1 _ hk
 kept:=fun⟨h1,h2⟩ k hC=>⟨SH.le_trans h1 k.keep,h2.ext k fun f hf b hb=>hC b ⟨f,hf,hb⟩⟩
variable{B:Nat→Prop}{base:Nat}
theorem cL.weak: ∀{O:List OE},cL base B w S O→cL 0 p9 w S O
 |[],_=>trivial
 |_::_,⟨h1,h2,h3⟩=>⟨⟨h1.1,fun _ _=> .inl (lS _)⟩,h2,cL.weak h3⟩
theorem kK: ∀{O:List OE},cL 0 p9 w S O→(∀f∈O,∀k,f.fp k→base≤k∨B k)→cL base B w S O
 |[],_,_=>trivial
 |_::_,⟨h1,h2,h3⟩,h=>⟨⟨h1.1,h _ (kZ ..)⟩,h2,kK h3 fun f hf=>h f (kN _ hf)⟩
def wG(l:Nat)(r:Loop)(st:LoopState):OE where
 fp:=fun k=>k=l
 p:=fun w S=>S l=none∧w.heap[l]? =some (.loop {r with state:=st,pending:=none})
 here:=by
  intro w S h k hk
  subst hk
  exact(wp.1 h.2).1
 kept:=by
  intro C w w' S S' h k hC
  have hlt:=(wp.1 h.2).1
  exact⟨by rw [k.old l hlt (hC l rfl)];exact h.1,by rw [k.heap l hlt (hC l rfl)];exact h.2⟩
def BU(b:Nat):OE where
 fp:=fun k=>k=b
 p:=fun w S=>S b=none∧w.heap[b]? =some (.deferred (some []))
 here:=by
  intro w S h k hk
  subst hk
  exact(wp.1 h.2).1
 kept:=by
  intro C w w' S S' h k hC
  have hlt:=(wp.1 h.2).1
  exact⟨by rw [k.old b hlt (hC b rfl)];exact h.1,by rw [k.heap b hlt (hC b rfl)];exact h.2⟩
def yr(b:Nat):Deferred:={target:= .collected b,args:= #[]}

def ZL(P:Program){α σ:Type}(args:α→List Ty)(y:α→σ→Option (Bool×σ))(I:σ→OE→Prop)(yv:Value):Prop:=
 ∃l,yv= .func (.yield l) #[] #[]∧ ∀x s r,y x s=some r→ ∀e,I s e→ ∀w S vs,jL w S→e.p w S→xA S (args x) vs→
  ∃f tmps assign body,(Instr.yield l vs.toArray).run P w= .ok (.round l f tmps assign body) w∧
   RoundIn (fw none) 0 P l f tmps assign body w fun en w' => ∃e' S',en= .returned (.bool r.1)∧I r.2 e' ∧gn e.fp w S w' S' ∧jL w' S' ∧e'.p w' S' ∧ ∀k,e'.fp k→e.fp k∨w.heap.size≤k
def TU(P:Program){α:Type}(args:α→List Ty)(it:It α)(fid:FuncId)(cap:Array Value)(fp:Nat→Prop)(w:World)(S:SH):Prop:=
 ∀(σ:Type) (y:α→σ→Option (Bool×σ)) (s s' :σ),it σ y s=some s' → ∀I yv,ZL P args y I yv→ ∀e,I s e→e.p w S→(∀k,e.fp k→ ¬fp k)→
  Calls P fid (#[yv]++cap) w fun en w' => ∃e' S',(∃v,en= .returned v)∧I s' e' ∧gn (fun k=>e.fp k∨fp k) w S w' S' ∧jL w' S' ∧e'.p w' S' ∧ ∀k,e'.fp k→e.fp k∨w.heap.size≤k
def Xu(P:Program){α:Type}(args:α→List Ty)(it:It α)(v:Value)(fp:Nat→Prop):OE where
 fp:=fp
 p:=fun w S=>(∀k,fp k→k<w.heap.size)∧ ∃fid cap,v= .func (.func fid) #[] cap∧ak P fid=true∧
  ∀C w' S',gn C w S w' S' →(∀k,fp k→ ¬C k)→jL w' S' →TU P args it fid cap fp w' S'
 here:=fun h k hk=>h.1 k hk
 kept:=by
  rintro C w w' S S' ⟨h1,fid,cap,h2,h3,h4⟩ k hC
  refine⟨fun b hb=>xJ (h1 b hb) k.size,fid,cap,h2,h3,fun C' w'' S'' k' hC' hs=>?_⟩;exact h4 (fun b=>C b∨C' b) w'' S'' ((k.more fun b hb=> .inl hb).trans (k'.more fun b hb=> .inr hb)) (fun b hb h=>h.elim (hC b hb) (hC' b hb)) hs

def AV(P:Program)(fid:FuncId){α:Type}(args:α→List Ty)(it:It α)(O:List OE)(cts:List Ty):Prop:=
 ∀w S cap,jL w S→cL 0 p9 w S O→xA S cts cap→TU P args it fid cap.toArray (fun k=> ∃f∈O,f.fp k) w S
def Zv(E:En){σ:Type}(I:σ→OE→Prop)(s:σ)(e0:OE):Ending→World→Prop:=fun en w' => ∃e' S',(∃v,en= .returned v)∧I s e' ∧gn E.B E.w0 E.S0 w' S' ∧jL w' S' ∧e'.p w' S' ∧ ∀k,e'.fp k→e0.fp k∨E.w0.heap.size≤k
variable{σ:Type}{I:σ→OE→Prop}{N:Nat}{S0:SH}{args:α→List Ty}{b:Nat}{c:Code}{cap:Nat}{cts:List Ty}{fn:Func}{it:It α}{s:σ}{w0:World}{y:α}
theorem AV.of(hf:P.funcs[f]? =some fn)(hb:fn.body=some c)(hN:fn.ntmps=N)(hn:Nat.ble (cts.length+1) N=true)(h: ∀(σ:Type) (y:α→σ→Option (Bool×σ)) (s s' :σ),it σ y s=some s' → ∀I yv,ZL P args y I yv→ ∀e,I s e→ ∀w0 S0 B,(∀k,B k→e.fp k∨ ∃f∈O,f.fp k)→
   CG ⟨P,⟨N,[]⟩,B,w0,S0,none⟩ (bodyPost P fn (Zv ⟨P,⟨N,[]⟩,B,w0,S0,none⟩ I s' e)) c (e::O) (uc 0 (tV yv::cts))):AV P f args it O cts:=by
 subst hN
 intro w S cap hs ho hc σ y s s' hit I yv hy e he hep hap
 have hown:cL w.heap.size (fun k=>e.fp k∨ ∃f∈O,f.fp k) w S (e::O):=
  ⟨⟨hep,fun k hk=> .inr (.inl hk)⟩,fun f hf b hb hfb=>hap b hb ⟨f,hf,hfb⟩,kK ho fun f hf k hk=> .inr (.inr ⟨f,hf,hk⟩)⟩
 have hfacts:=m9 (S:=S) (ts:=tV yv::cts) (vs:=yv::cap) ⟨rfl,hc⟩ fn.ntmps (by simpa using pw hn)
 have:=jU.1 (Eu (F:=fw none) (n:=0) hf hb trivial (h σ y s s' hit I yv hy e he w S (fun k=>e.fp k∨ ∃f∈O,f.fp k) (fun _ h=>h) _ w S ⟨gn.refl _ _ _,hs,hown,hfacts⟩))
 rw [show(#[yv]++cap.toArray:Array Value)=(yv::cap).toArray from by simp]
 exact this.mono fun en w' ⟨e',S',h1,h2,h3,h4,h5,h6⟩=>⟨e',S',h1,h2,h3,h4,h5,h6⟩
variable{after:Array Edge}{ats:Array TypeId}{ops:Array Oper}{pos:String}{x:Operand}
section
variable{ty:TypeId}
theorem RZ{e e' :OE}{O:List OE}(h:cL base B w S (e::O))(k:gn e.fp w S w' S')(hp:e'.p w' S')(hn: ∀b,e'.fp b→e.fp b∨w.heap.size≤b)(hb:base≤w.heap.size):cL base B w' S' (e' ::O):=
 ⟨⟨hp,fun b hb' =>(hn b hb').elim (fun h2=>h.1.2 b h2) (fun h2=> .inl (by omega))⟩,fun f hf b hb' hfb=>(hn b hb').elim (fun h2=>h.2.1 f hf b h2 hfb) (fun h2=>by
  have:=f.here (cL.mem h.2.2 f hf).1 b hfb
  omega),h.2.2.ext k fun f hf b hb' h2=>h.2.1 f hf b h2 hb'⟩
theorem Ga{y:α→σ→Option (Bool×σ)}{yv:Value}{x:α}{r:Bool×σ}{e:OE}{fo:Operand}{xs:List Operand}(hy:ZL E.P args y I yv)(he:I s e)(hq:y x s=some r)(hf:aJ E.N G fo (tV yv))(hx:jV E.N G xs (args x))(hd:Nat.blt d E.N.n=true)(k: ∀e',I r.2 e' →RG E ops Q rest (e' ::O) ((d,tD rB r.1)::G)):RG E ops Q (⟨some d,.call ⟨.value fo,xs.toArray,ats⟩,ty,pos,after,none⟩::rest) (e::O) G:= .of rfl fun a w S st=>by
 obtain⟨l,rfl,hyl⟩:=hy
 have h1:a.eval fo= .func (.yield l) #[] #[]:=hf S a st.facts
 obtain⟨f,tmps,assign,body,h2,h3⟩:=hyl x s r hq e he w S _ st.sat st.own.1.1 (hx.tys st.facts)
 have hr:(execOp a.eval ⟨some d,.call ⟨.value fo,xs.toArray,ats⟩,ty,pos,after,none⟩).run E.P w= .ok (.round l f tmps assign body) w:=by
  simp [execOp,resolve,h1,Deferred.ofValue,invoke]
  simpa using h2
 refine⟨fun c h=>(by cases h),?_⟩
 rw [hr]
 refine h3.mono fun en w' ⟨e',S',h4,h5,h6,h7,h8,h9⟩=>⟨_,h4,?_⟩;exact k e' h5 _ _ S' ⟨st.ext.step h6 (fun b hb=>st.own.1.2 b hb),h7,RZ st.own h6 h8 h9 st.base_le,(st.facts.mono h6.keep).put hd (i8.2 rfl)⟩
end
def HF:List OE→List OE→Prop
 |[],_=>True
 |f::O,g::O' =>(∀k,f.fp k→g.fp k)∧HF O O'
 |_::_,[]=>False
variable{g:Option (Nat×Bool)}
theorem HF.mem: ∀{O O' :List OE},HF O O' → ∀k,(∃f∈O,f.fp k)→ ∃f∈O',f.fp k
 |f::O,g::O',⟨h1,h2⟩,k,⟨q,hq,hk⟩=>by
  rcases fx.1 hq with e|e
  ·subst e;exact⟨g,kZ ..,h1 k hk⟩
  ·obtain⟨q',h3,h4⟩:=HF.mem h2 k ⟨q,e,hk⟩
   exact⟨q',kN _ h3,h4⟩
theorem JJ{e0 e:OE}{O0:List OE}(hr:fn.results= #[])(he:I s e)(hB: ∀k,B k→e0.fp k∨ ∃f∈O0,f.fp k)(hO:HF O0 O):
  AT ⟨P,⟨N,[]⟩,B,w0,S0,none⟩ (bodyPost P fn (Zv ⟨P,⟨N,[]⟩,B,w0,S0,none⟩ I s e0)) .ret (e::O) G:=fun _ _ S st=>
 ⟨st.facts.defers,_,vE P fn hr _ _,e,S,⟨_,rfl⟩,he,st.ext,st.sat,st.own.1.1,fun k hk=>(st.own.1.2 k hk).elim .inr fun hb=>(hB k hb).elim .inl fun hx=>let⟨f,hf,hfk⟩:=hO.mem k hx;absurd hfk (st.own.2.1 f hf k hk)⟩
theorem Mx{e0 e:OE}{O0:List OE}(hr:fn.results= #[])(he:I s e)(hB: ∀k,B k→e0.fp k∨ ∃f∈O0,f.fp k)(hO:HF O0 O):
  AT ⟨P,⟨N,[]⟩,B,w0,S0,none⟩ (bodyPost P fn (Zv ⟨P,⟨N,[]⟩,B,w0,S0,none⟩ I s e0)) .normal (e::O) G:=fun a w S st=>JJ hr he hB hO a w S st

variable{O1:List OE}{ι:Type}{O2:ι→List OE}
theorem nU: ∀{O1 O2:List OE},cL base B w S (O1++O2)→cL base B w S O1∧cL base B w S O2∧ ∀e∈O1,∀f∈O2,e.apart f
 |[],_,h=>⟨trivial,h,fun _ h=>(by cases h)⟩
 |e::O1,O2,⟨h1,h2,h3⟩=>by
  obtain⟨k1,k2,k3⟩:=nU h3
  refine⟨⟨h1,fun f hf=>h2 f (Ha _ hf),k1⟩,k2,fun g hg f hf=>?_⟩
  rcases fx.1 hg with rfl|hg
  ·exact h2 f (List.mem_append_right _ hf)
  ·exact k3 g hg f hf
theorem cL.cons{e:OE}(h1:e.holds base B w S)(h2: ∀f∈O,e.apart f)(h3:cL base B w S O):cL base B w S (e::O):=⟨h1,h2,h3⟩

def AN(P:Program)(f:FuncId)(ts:List Ty){α:Type}(args:α→List Ty)(it:It α):Prop:=
 ∀w S vs,jL w S→xA S ts vs→Calls P f vs.toArray w fun e w' => ∃v fp S',e= .returned v∧gn p9 w S w' S' ∧jL w' S' ∧(Xu P args it v fp).holds w.heap.size p9 w' S'
def XB(E:En){α:Type}(args:α→List Ty)(it:It α):Ending→World→Prop:=fun e w' => ∃v fp S',e= .returned v∧gn E.B E.w0 E.S0 w' S' ∧jL w' S' ∧(Xu E.P args it v fp).holds E.w0.heap.size E.B w' S'
theorem AN.of(hf:P.funcs[f]? =some fn)(hb:fn.body=some c)(hN:fn.ntmps=N)(hn:Nat.ble ts.length N=true)(h: ∀w0 S0,CG ⟨P,⟨N,[]⟩,p9,w0,S0,none⟩ (bodyPost P fn (XB ⟨P,⟨N,[]⟩,p9,w0,S0,none⟩ args it)) c [] (uc 0 ts)):AN P f ts args it:=by
 subst hN
 intro w S vs hs hv
 exact jU.1 (Eu (F:=fw none) (n:=0) hf hb trivial (h w S _ w S ⟨gn.refl _ _ _,hs,trivial,m9 hv _ (pw hn)⟩))
section
theorem Mv{k:Nat}{v:Value}{fp:Nat→Prop}(hr:fn.results= #[.tmp k])(hk:dn G k=some (tV v)):
  AT ⟨P,⟨N,[]⟩,B,w0,S0,none⟩ (bodyPost P fn (XB ⟨P,⟨N,[]⟩,B,w0,S0,none⟩ args it)) .ret (Xu P args it v fp::O) G:=fun a w S st=>by
 have hv:a.tmps.getD k undef=v:=st.facts.at_ k _ hk
 exact⟨st.facts.defers,_,np P fn k hr _ _,v,fp,S,by rw [hv],st.ext,st.sat,st.own.1⟩
section
variable{ty:TypeId}
theorem HY{xs:List Operand}(hc:ak E.P f=true)(hs:AN E.P f ts args it)(hx:jV E.N G xs ts)(hd:Nat.blt d E.N.n=true)(k: ∀v fp,RG E ops Q rest (Xu E.P args it v fp::O) ((d,tV v)::G)):
  RG E ops Q (⟨some d,.call ⟨.value (.func f),xs.toArray,ats⟩,ty,pos,after,none⟩::rest) O G:= .of rfl fun a w S st=>by
 have hr:(execOp a.eval ⟨some d,.call ⟨.value (.func f),xs.toArray,ats⟩,ty,pos,after,none⟩).run E.P w= .ok (.enter f (xs.map a.eval).toArray) w:=by
  simp [execOp,resolve,Act.eval,Deferred.ofValue,invoke,ei hc]
 refine⟨fun c h=>(by cases h),?_⟩
 rw [hr]
 refine(hs w S _ st.sat (hx.tys st.facts)).mono fun e w' ⟨v,fp,S',he,h1,h2,h3⟩=>⟨_,he,?_⟩;exact k v fp _ _ S' ⟨st.ext.step0 h1,h2,ql st.own h1 h3.1 (fun b hb=>(h3.2 b hb).resolve_right id) st.base_le,(st.facts.mono h1.keep).put hd rfl⟩
theorem DI{fid:FuncId}{O2:List OE}{caps:List Operand}(hO:O=O1++O2)(hc:ak E.P fid=true)(hs:AV E.P fid args it O1 cts)(hcap:jV E.N G caps cts)(hd:Nat.blt d E.N.n=true)(k: ∀v fp,RG E ops Q rest (Xu E.P args it v fp::O2) ((d,tV v)::G)):
  RG E ops Q (⟨some d,.makeFunc (.func fid) #[] caps.toArray,ty,pos,after,none⟩::rest) O G:= .of rfl fun a w S st=>by
 subst hO
 have hr:(execOp a.eval ⟨some d,.makeFunc (.func fid) #[] caps.toArray,ty,pos,after,none⟩).run E.P w= .ok (.value (.func (.func fid) #[] (caps.map a.eval).toArray)) w:=by simp [execOp,Instr.makeFunc]
 refine⟨fun c h=>(by cases h),?_⟩
 rw [hr]
 obtain⟨h1,h2,h3⟩:=nU st.own
 have hcv:=hcap.tys st.facts
 refine k (.func (.func fid) #[] (caps.map a.eval).toArray) (fun k=> ∃f∈O1,f.fp k) _ _ S ⟨st.ext,st.sat,?_,st.facts.put hd rfl⟩;refine cL.cons ⟨⟨fun b ⟨f,hf,hb⟩=>f.here (cL.mem h1 f hf).1 b hb,fid,_,rfl,hc,fun C w' S' he hC hs' =>?_⟩,fun b ⟨f,hf,hb⟩=>(cL.mem h1 f hf).2 b hb⟩ (fun f hf b ⟨g,hg,hb⟩=>h3 g hg f hf b hb) h2;exact hs w' S' _ hs' (h1.weak.ext he fun f hf b hb=>hC b ⟨f,hf,hb⟩) (hcv.mono he.keep)
end
end

def Ht:List Nat→List Ty→nm→nm
 |d::ds,t::ts,G=>Ht ds ts ((d,t)::G)
 |_,_,G=>G
theorem AI{N:Fr}{S:SH}: ∀(ds:List Nat) (ts:List Ty) (vs:List Value) (a:Act) (G:nm),ds.length=ts.length→xA S ts vs→(ds.all fun d=>Nat.blt d N.n)=true→cU N S a G→
  cU N S {tmps:=(ds.zip vs).foldl (fun t (p:Nat×Value)=>t.setIfInBounds p.1 p.2) a.tmps,defers:=a.defers} (Ht ds ts G)
 |[],_,_,_,_,hl,_,_,hF=>by
  cases uD hl.symm
  simpa [Ht] using hF
 |d::ds,[],_,_,_,hl,_,_,_=>by simp at hl
 |d::ds,t::ts,[],_,_,_,hv,_,_=>hv.elim
 |d::ds,t::ts,v::vs,a,G,hl,⟨h1,h2⟩,hd,hF=>by
  simp only [xE,my]at hd
  have:=AI ds ts vs (a.put (some d) v) ((d,t)::G) (by simpa using hl) h2 hd.2 (hF.put hd.1 h1)
  simpa [Ht,Act.put] using this
def Yw(E:En)(l:Nat)(rec:Loop){σ ι:Type}(Oi:ι→List OE)(dat:ι→σ)(s2:σ):Ending→World→Prop:=fun en w' =>
 ∃i S',en= .returned (.bool true)∧dat i=s2∧gn E.B E.w0 E.S0 w' S' ∧jL w' S' ∧cL E.base E.B w' S' (wG l rec .ready::Oi i)
def WO(E:En)(l:Nat)(body:Code)(R:Ending→World→Prop):Exit→Act→World→Prop:=
 Exit.then (fun a₁ w₁=> ∃w₂,(Instr.beginRound l).run E.P w₁= .ok () w₂∧body.wpIn (fw E.r) 0 E.P (roundPost E.P l R) a₁ w₂) (fun _ _ _=>False)
variable{rec:Loop}{x1 x2 x3:OE}
section
theorem IR{l:Nat}{st st' :LoopState}{O:List OE}(h:cL base B w S (wG l rec st::O))(hs:jL w S):
  gn (fun k=>k=l) w S (w.putObj l (.loop {rec with state:=st',pending:=none})) S∧jL (w.putObj l (.loop {rec with state:=st',pending:=none})) S∧cL base B (w.putObj l (.loop {rec with state:=st',pending:=none})) S (wG l rec st' ::O):=by
 obtain⟨hno,hl⟩:=h.1.1
 have hlt:=(wp.1 hl).1
 have hext:gn (fun k=>k=l) w S (w.putObj l (.loop {rec with state:=st',pending:=none})) S:=⟨rfl,rfl,rfl,dh _,by simp,fun k _ hk=>World.putObj_heap_other hk,SH.le_refl _,fun _ _ _=>rfl⟩
 refine⟨hext,hs.same fun k o hk=>?_,⟨⟨hno,World.putObj_heap_same hlt⟩,h.1.2⟩,h.2.1,h.2.2.ext hext fun g hg k hk hkl=>h.2.1 g hg k hkl hk⟩
 have hne:k≠l:=fun e=>by subst e;rw [hno]at hk;cases hk
 exact World.putObj_heap_other hne
theorem T5{l:Nat}{body:Code}{R:Ending→World→Prop}(h:CG E (roundPost E.P l R) body (wG l rec .busy::O) G):AT E (WO E l body R) .normal (wG l rec .ready::O) G:=fun a w S st=>by
 obtain⟨h1,h2,h3⟩:=IR (st' := .busy) st.own st.sat
 obtain⟨_,hl⟩:=st.own.1.1
 exact⟨_,run_beginRound hl rfl,h a _ S ⟨st.ext.step h1 (fun c hc=>st.own.1.2 c hc),h2,h3,st.facts⟩⟩
theorem My{l:Nat}{Oi:ι→List OE}{dat:ι→σ}{s2:σ}(i:ι)(hi:dat i=s2)(hO:O=Oi i):AT E (roundPost E.P l (Yw E l rec Oi dat s2)) .normal (wG l rec .busy::O) G:=fun a w S st=>by
 subst hO
 obtain⟨h1,h2,h3⟩:=IR (st' := .ready) st.own st.sat
 obtain⟨_,hl⟩:=st.own.1.1
 exact⟨_,_,run_endRound none hl,i,S,rfl,hi,st.ext.step h1 (fun c hc=>st.own.1.2 c hc),h2,h3⟩
theorem xj{ps:Array Nat}{vs:List Value}{tmps:Array Value}:(ps.zip vs.toArray).foldl (fun t (p,v)=>t.setIfInBounds p v) tmps=(ps.toList.zip vs).foldl (fun t (p:Nat×Value)=>t.setIfInBounds p.1 p.2) tmps:=by
 rw [←Array.foldl_toList]
 simp
def DF{α σ:Type}(f:α→σ→Option σ):α→σ→Option (Bool×σ):=fun x s=>(f x s).map fun s' =>(true,s')
theorem Ri{v:Value}{fp:Nat→Prop}(Oi:ι→List OE)(dat:ι→σ){f:α→σ→Option σ}{s' :σ}{g:Operand}{ps:List Nat}{assign body:Code}(hr:E.r=none)(hg:aJ E.N G g (tV v))(i0:ι)(hO:O=Xu E.P args it v fp::Oi i0)(hit:it σ (DF f) (dat i0)=some s')(hps: ∀x,ps.length=(args x).length)(hpn:(ps.all fun d=>Nat.blt d E.N.n)=true)(hbody: ∀(i:ι) (x:α) (s2:σ),f x (dat i)=some s2→ ∀(l:Nat) (rec:Loop) (w1:World) (S1:SH) (B1:Nat→Prop),
   CG ⟨E.P,⟨E.N.n,[]⟩,B1,w1,S1,some l⟩ (WO ⟨E.P,⟨E.N.n,[]⟩,B1,w1,S1,some l⟩ l body (Yw ⟨E.P,⟨E.N.n,[]⟩,B1,w1,S1,some l⟩ l rec Oi dat s2)) assign (wG l rec .ready::Oi i) (Ht ps (args x) G))(k: ∀i',dat i' =s' → ∀b,AT ⟨E.P,⟨E.N.n,yr b::E.N.ds⟩,E.B,E.w0,E.S0,E.r⟩ Q .normal (BU b::Oi i') G):CG E Q (.rangeFunc g ps.toArray assign body) O G:=fun a w S st=>by
 subst hO
 refine wpIn_rangeFunc fun fn _=>?_
 have hr0:(fw E.r).round=none:=hr
 have hfw:fw E.r=fw none:=by rw [hr]
 rw [hr0]
 obtain⟨rec,hrec⟩: ∃rec:Loop,rec={state:= .ready,pending:=none,fn,tmps:=a.tmps,params:=ps.toArray,assign,body,defers:=w.heap.size}:=⟨_,rfl⟩
 obtain⟨x1,x2,x3⟩:=gk (w:=w) (.deferred (some [])) st.sat
 obtain⟨y1,y2,y3⟩:=gk (w:=w.alloc (.deferred (some []))) (.loop rec) x2
 obtain⟨W1,hW1⟩: ∃W1,(w.alloc (.deferred (some []))).alloc (.loop rec)=W1:=⟨_,rfl⟩
 rw [hW1]at y1 y2
 have hsz:(w.alloc (.deferred (some []))).heap.size=w.heap.size+1:=by simp
 rw [hsz]at y3
 have hext:gn p9 w S W1 S:=x1.trans y1
 have hL1:W1.heap[w.heap.size+1]? =some (.loop rec):=by
  rw [←hW1];have:=World.alloc_heap_new (w.alloc (.deferred (some []))) (.loop rec);rwa [hsz]at this
 have hK1:W1.heap[w.heap.size]? =some (.deferred (some [])):=by
  rw [y1.heap w.heap.size (by omega) (fun h=>h)];exact World.alloc_heap_new w _
 have hW1s:W1.heap.size=w.heap.size+2:=by rw [←hW1];simp
 have hg' :a.eval g=v:=hg S a st.facts
 obtain⟨hit1,hap,hoi⟩:=st.own
 obtain⟨⟨hfp,gf,cap,hv,hcal,hcall⟩,hbase⟩:=hit1
 have hbl:=st.base_le
 have hoi1:cL E.base E.B W1 S (Oi i0):=hoi.ext0 hext
 have hlt: ∀f∈Oi i0,∀k,f.fp k→k<w.heap.size:=fun f hf k hk=>f.here (cL.mem hoi f hf).1 k hk
 refine⟨w.heap.size+1,[yr w.heap.size],W1,{target:= .fn (.func gf) cap,args:= #[.func (.yield (w.heap.size+1)) #[] #[]]},W1,gf,
  #[.func (.yield (w.heap.size+1)) #[] #[]]++cap,W1,?_,?_,fun _ _=>trivial,?_,fun h=>(by cases h),?_⟩
 ·rw [←hW1,hrec];exact run_enterLoop_outer _ _ _ _ _
 ·simp only [resolve,hg',hv]
  simp [go_sem]
 ·simp [invoke,go_sem,ei hcal]
 rw [hfw]
 refine jU.2 ?_
 have hyld:ZL E.P args (DF f) (fun s e=> ∃i,dat i=s∧e=qQ S (wG (w.heap.size+1) rec .ready::Oi i)) (.func (.yield (w.heap.size+1)) #[] #[]):=by
  refine⟨_,rfl,?_⟩
  rintro x s r hy e ⟨i,rfl,rfl⟩ w2 S2 vs hs2 ⟨hle,hown⟩ hvs
  obtain⟨s2,hs2',rfl⟩: ∃s2,f x (dat i)=some s2∧r=(true,s2):=by
   unfold DF at hy
   cases hf:f x (dat i)with
   |none=>rw [hf]at hy;cases hy
   |some s2=>rw [hf]at hy;exact⟨s2,rfl,by simpa using hy.symm⟩
  have hl2:=hown.1.1.2
  have hvl:=hvs.length
  have hyr:=run_yield (P:=E.P) (args:=vs.toArray) hl2 (by rw [hrec];simp [hps x,hvl])
  refine⟨_,_,_,_,hyr,roundIn_of_wpIn trivial ?_⟩
  have:=hbody i x s2 hs2' (w.heap.size+1) rec w2 S2 (fun k=> ∃f∈wG (w.heap.size+1) rec .ready::Oi i,f.fp k)
   {tmps:=(ps.zip vs).foldl (fun t (p:Nat×Value)=>t.setIfInBounds p.1 p.2) a.tmps,defers:=[]} w2 S2
   ⟨gn.refl _ _ _,hs2,kK hown fun f hf k hk=> .inr ⟨f,hf,hk⟩,AI ps (args x) vs ⟨a.tmps,[]⟩ G (hps x) hvs hpn ⟨st.facts.size,rfl,fun j t h=>t.mono hle (st.facts.at_ j t h)⟩⟩
  rw [hrec]
  rw [hrec]at this
  rw [xj]
  refine wpIn_mono this ?_
  intro e a3 w3 hp
  cases e with
  |normal=>
   obtain⟨w4,hb4,hp4⟩:=hp
   refine⟨w4,hb4,wpIn_mono hp4 ?_⟩
   have hR: ∀en w',Yw ⟨E.P,⟨E.N.n,[]⟩,fun k=> ∃f∈wG (w.heap.size+1) rec .ready::Oi i,f.fp k,w2,S2,some (w.heap.size+1)⟩ (w.heap.size+1) rec Oi dat s2 en w' →
     ∃e' S',en= .returned (.bool true)∧(∃i',dat i' =s2∧e' =qQ S (wG (w.heap.size+1) rec .ready::Oi i'))∧gn (qQ S (wG (w.heap.size+1) rec .ready::Oi i)).fp w2 S2 w' S' ∧jL w' S' ∧e'.p w' S' ∧ ∀k,e'.fp k→(qQ S (wG (w.heap.size+1) rec .ready::Oi i)).fp k∨w2.heap.size≤k:=by
    rintro en w' ⟨i',S',h1,h2,h3,h4,h5⟩
    exact⟨_,S',h1,⟨i',h2,rfl⟩,h3,h4,⟨SH.le_trans hle h3.keep,h5.weak⟩,fun k ⟨f,hf,hk⟩=>((cL.mem h5 f hf).2 k hk).symm⟩
   rw [hrec]at hR
   intro e5 a5 w5 hp5
   cases e5<;>simp only [roundPost]at hp5 ⊢
   case normal=>obtain⟨v5,w6,h1,h2⟩:=hp5;exact⟨v5,w6,h1,hR _ _ h2⟩
   case ret=>obtain⟨v5,w6,h1,h2⟩:=hp5;exact⟨v5,w6,h1,hR _ _ h2⟩
   case exit=>obtain⟨v5,w6,h1,h2⟩:=hp5;exact⟨v5,w6,h1,hR _ _ h2⟩
   case goto=>obtain⟨v5,w6,h1,h2⟩:=hp5;exact⟨v5,w6,h1,hR _ _ h2⟩
  |_=>exact hp
 have hrecE:W1.heap[w.heap.size+1]? =some (.loop {rec with state:= .ready,pending:=none}):=by rw [hL1,hrec]
 have he0:(qQ S (wG (w.heap.size+1) rec .ready::Oi i0)).p W1 S:=⟨SH.le_refl _,⟨⟨y3,hrecE⟩,fun _ _=> .inl (lS _)⟩,fun f hf k hk hfk=>by have:=hlt f hf k hfk;have hk' :k=w.heap.size+1:=hk;omega,hoi1.weak⟩
 have hap0: ∀k,(qQ S (wG (w.heap.size+1) rec .ready::Oi i0)).fp k→ ¬fp k:=by
  rintro k ⟨f,hf,hk⟩ hfk
  rcases fx.1 hf with rfl|hf
  ·have:=hfp k hfk;have hk' :k=w.heap.size+1:=hk;omega
  ·exact hap f hf k hfk hk
 refine(hcall p9 W1 S hext (fun _ _ h=>h) y2 σ (DF f) (dat i0) s' hit _ _ hyld _ ⟨i0,rfl,rfl⟩ he0 hap0).mono ?_
 rintro en w2 ⟨e',S2,⟨vr,rfl⟩,⟨i',hi',rfl⟩,hx2,hs2,⟨hle2,hown2⟩,hnew⟩
 have hl2:=hown2.1.1.2
 refine⟨none,_,run_endLoop hl2 (by simp),?_⟩
 have hb2:cL E.base E.B w2 S2 (wG (w.heap.size+1) rec .ready::Oi i'):=by
  refine kK hown2 fun f hf k hk=>?_
  rcases hnew k ⟨f,hf,hk⟩with⟨f0,hf0,hk0⟩|h
  ·rcases fx.1 hf0 with rfl|hf0
   ·left;have hk' :k=w.heap.size+1:=hk0;omega
   ·exact(cL.mem hoi f0 hf0).2 k hk0
  ·left;omega
 obtain⟨z1,z2,z3⟩:=IR (st' := .exhausted) hb2 hs2
 have hdf:(BU w.heap.size).p W1 S:=⟨x3,hK1⟩
 have hnb: ∀k,(BU w.heap.size).fp k→ ¬((qQ S (wG (w.heap.size+1) rec .ready::Oi i0)).fp k∨fp k):=by
  rintro k hk h
  have hk' :k=w.heap.size:=hk
  subst hk'
  rcases h with⟨f,hf,hfk⟩|h
  ·rcases fx.1 hf with rfl|hf
   ·have hk' :w.heap.size=w.heap.size+1:=hfk;omega
   ·have:=hlt f hf _ hfk;omega
  ·have:=hfp _ h;omega
 have sI:(BU w.heap.size).p w2 S2:=(BU w.heap.size).kept hdf hx2 hnb
 have hd3:=(BU w.heap.size).kept sI z1 (fun k hk hkl=>by have h1:k=w.heap.size:=hk;have h2:k=w.heap.size+1:=hkl;omega)
 have hBin: ∀k,((qQ S (wG (w.heap.size+1) rec .ready::Oi i0)).fp k∨fp k)→E.w0.heap.size≤k∨E.B k:=by
  rintro k (⟨f,hf,hk⟩|h)
  ·rcases fx.1 hf with rfl|hf
   ·left;have hk' :k=w.heap.size+1:=hk;have:E.w0.heap.size≤w.heap.size:=hbl;omega
   ·exact(cL.mem hoi f hf).2 k hk
  ·exact hbase k h
 refine k i' hi' w.heap.size _ _ S2 ⟨((st.ext.step0 hext).step hx2 hBin).step z1 (fun c hc=>z3.1.2 c hc),z2,?_,?_⟩
 ·refine cL.cons ⟨hd3,fun k hk=> .inl (by have h1:k=w.heap.size:=hk;rw [h1];exact hbl)⟩ (fun f hf k hk hfk=>?_) z3.2.2
  have h1:k=w.heap.size:=hk
  rcases hnew k ⟨f,kN _ hf,hfk⟩with h2|h2
  ·exact hnb k hk (.inl h2)
  ·omega
 ·refine⟨st.facts.size,?_,fun j t hj=>t.mono (SH.le_trans (SH.le_refl S) hle2) (st.facts.at_ j t hj)⟩
  show yr w.heap.size::a.defers=_
  rw [st.facts.defers]
end

section
variable{R:Ending→World→Prop}{ds:List Deferred}
theorem ss(h:AT ⟨P,⟨N,[]⟩,B,w0,S0,none⟩ (bodyPost P fn R) .ret O G):AT ⟨P,⟨N,[]⟩,B,w0,S0,none⟩ (bodyPostM (fw none) 0 P fn R) .ret O G:=fun a w S st=>by
 obtain⟨h1,v,h2,h3⟩:=h a w S st
 show LeavesInM (fw none) 0 P fn a.tmps R a.defers .returning w
 rw [h1]
 exact⟨v,h2,h3⟩
theorem Cb(h:AT ⟨P,⟨N,ds⟩,B,w0,S0,none⟩ (bodyPostM (fw none) 0 P fn R) .ret O G):AT ⟨P,⟨N,yr b::ds⟩,B,w0,S0,none⟩ (bodyPostM (fw none) 0 P fn R) .ret (BU b::O) G:=fun a w S st=>by
 show LeavesInM (fw none) 0 P fn a.tmps R a.defers .returning w
 rw [st.facts.defers]
 obtain⟨hno,hb⟩:=st.own.1.1
 have hlt:=(wp.1 hb).1
 have hext:gn (fun k=>k=b) w S (w.putObj b (.deferred none)) S:=⟨rfl,rfl,rfl,dh _,by simp,fun k _ hk=>World.putObj_heap_other hk,SH.le_refl _,fun _ _ _=>rfl⟩
 have hsat:jL (w.putObj b (.deferred none)) S:=st.sat.same fun k o hk=>by
  have hne:k≠b:=fun e=>by subst e;rw [hno]at hk;cases hk
  exact World.putObj_heap_other hne
 have:=h {a with defers:=ds} (w.putObj b (.deferred none)) S ⟨st.ext.step hext (fun c hc=>st.own.1.2 c hc),hsat,st.own.2.2.ext hext (fun g hg k hk hkb=>st.own.2.1 g hg k hkb hk),⟨st.facts.size,rfl,st.facts.at_⟩⟩
 exact⟨by simp,.inl ⟨b,_,rfl,run_takeDeferred hb,this⟩⟩
end
theorem Md{t:Ty}(hf:P.funcs[f]? =some fn)(hb:fn.body=some c)(hN:fn.ntmps=N)(hn:Nat.ble ts.length N=true)(h: ∀w0 S0,CG ⟨P,⟨N,[]⟩,p9,w0,S0,none⟩ (bodyPostM (fw none) 0 P fn (N3 ⟨P,⟨N,[]⟩,p9,w0,S0,none⟩ t)) c [] (uc 0 ts)):aW P f ts t:=by
 subst hN
 intro w S vs hs hv
 exact jU.1 (callsIn_of_wp_marks (F:=fw none) (n:=0) hf hb trivial (h w S _ w S ⟨gn.refl _ _ _,hs,trivial,m9 hv _ (pw hn)⟩))

def rT(t:Ty):Rp Unit where
 sz:=1
 agg:=false
 rc:=fun S cs _=> ∃v,cs=[v]∧v.oneCell' =true∧t.p S v
 mono:=fun h ⟨v,e,k,l⟩=>⟨v,e,k,t.mono h l⟩
 len:=fun⟨_,e,_⟩=>by rw [e];rfl
 one:=fun⟨v,e,k,_⟩ c hc=>by rw [e]at hc;simp at hc;subst hc;exact k
 sc:=fun _=>rfl
theorem tRT{t:Ty}{u:Unit}{v:Value}:(tD (rT t) u).p S v↔v.oneCell' =true∧t.p S v:=by
 constructor
 ·rintro⟨cs,rfl,w,rfl,h1,h2⟩;exact⟨h1,h2⟩
 ·rintro⟨h1,h2⟩;exact⟨[v],rfl,v,rfl,h1,h2⟩
variable{T U:TypeId}{agg:Bool}{bytes:Nat}{dst:Option Tmp}{get:α→β}{k' :IntKind}{lo:Int}{off sz:Nat}{ys:List α}{z:List Value}
section
variable{ty:TypeId}
theorem bR.imp{t u:Ty}(h:bR E O G o t)(k: ∀S v,t.p S v→u.p S v):bR E O G o u:=fun a w S hs ho hf=>
 oR (fun _ _ ⟨v,S',h1,h2,h3,h4⟩=>⟨v,S',h1,h2,h3,k S' v h4⟩) (h a w S hs ho hf)
theorem Ec{res:β→Ty}{f:α→Option β}(hx:aJ E.N G x (dR E.P args res f)):bR E O G ⟨dst,.box T x,ty,pos,after,g⟩ (bM (rT (dR E.P args res f)) ()):=
 Nx (fun S a hf=>tRT.2 ⟨by obtain⟨_,_,e,_⟩:=hx S a hf;rw [e];rfl,hx S a hf⟩)
theorem vM{t:Ty}{p:Operand}(ti:TI E.P U 1 bytes false z)(hp:aJ E.N G p (bM (rT t) ())):bR E O G ⟨dst,.load U p,ty,pos,after,g⟩ t:=
 (bI (r:=rT t) (x:=()) ti rfl rfl hp).imp fun _ _ h=>(tRT.1 h).2

theorem Fg:rV.rc S [.slice none 0 0] (aT none 0 0):=⟨rfl,rfl⟩
theorem QK{N:Fr}(h:aJ N G x (tV (aT l cap n))):aJ N G x (tD rV (aT l cap n)):=fun S a hf=>wv.2 ⟨h S a hf,by cases l<;>rfl⟩
theorem ii{p:Operand}(ti:TI E.P U 1 bytes false z)(hm:bx rV T b (aT l cap n)∈O)(hp:aJ E.N G p (tV (aO b 0))):
  bR E O G ⟨dst,.load U p,ty,pos,after,g⟩ (tV (aT l cap n)):=(ce (q:=rV) (get:=fun x=>x) ti rfl rfl bU hm hp).imp fun _ _ h=>(wv.1 h).1

def dE{α:Type}(xs:List α)(lo hi:Int):Option (List α):=if 0≤lo∧lo≤hi∧hi≤(xs.length:Int)then some ((xs.take hi.toNat).drop lo.toNat)else none
theorem hZ(h:dE xs lo hi=some ys): ∃l m:Nat,lo=l∧hi=m∧l≤m∧m≤xs.length∧ys=(xs.take m).drop l:=by
 unfold dE at h
 split at h
 ·rename_i hc
  exact⟨lo.toNat,hi.toNat,by omega,by omega,by omega,by omega,by simpa using h.symm⟩
 ·cases h
theorem ES{a:Option Addr}{l:Nat}(h:Kt r S a xs)(hl:l≤m)(hm:m≤xs.length)(hc:xs.length≤cap):
  Kt r S (if cap=l then a else a.map (·.add (l*r.sz))) ((xs.take m).drop l):=by
 by_cases hlm:l=m
 ·left;subst hlm;simp
 right
 rcases h with h|⟨b,off,c,T,fr,e1,e2,e3⟩
 ·subst h;simp at hm;omega
 subst e1
 have hne: ¬(cap=l):=by omega
 refine⟨b,off+l*r.sz,c,T,fr,?_,e2,?_⟩
 ·rw [aK hne];simp [Addr.add]
 have hlen:((xs.take m).drop l).length=m-l:=by simp;omega
 have e4:xs=(xs.take m).take l++((xs.take m).drop l++xs.drop m):=by
  rw [←jX,wn,wn]
 have h1:((xs.take m).take l).length=l:=by simp;omega
 rw [e4]at e3
 have h2:=(qZ e3).2
 have h3:=(qZ h2).1
 rw [h1]at h3
 rw [hlen]at h3 ⊢
 rw [←e4]at h3
 rw [A6,Ce,qL]at h3
 have hmin:min ((m-l)*r.sz) (xs.length*r.sz-l*r.sz)=(m-l)*r.sz:=by
  rw [←Nat.sub_mul];exact xO (Cg _ (by omega))
 rwa [hmin]at h3
theorem md{n:Int}{y:Nat}{code:BoundsCode}(h0:0≤n)(h1:n≤y):(Instr.sliceBound (.int k n) y code).run P w= .ok n.toNat w:=by
 simp [Instr.sliceBound,asIntOf,h0,h1]
theorem Nt{hi:Operand}(ht:E.P.underlying t=some (.slice T))(ti:TI E.P T sz bytes agg z)(hsz:r.sz=sz)(hx:aJ E.N G x (tD (gi r) xs))(hhi:aJ E.N G hi (tD (rI k') j))(h:dE xs 0 j=some ys):bR E O G ⟨dst,.slice t x none (some hi) none,ty,pos,after,g⟩ (tD (gi r) ys):=
 .of_pure fun a w S _ _ hf=>by
  subst hsz
  obtain⟨ad,cap,h1,h2,h3,h4⟩:=po.1 (hx S a hf)
  have h6:=di.1 (hhi S a hf)
  obtain⟨l,m,hl,rfl,h7,h8,rfl⟩:=hZ h
  have hl0:l=0:=by omega
  subst hl0
  have hlen:((xs.take m).drop 0).length=m-0:=by simp;omega
  refine⟨.slice (if cap=0 then ad else ad.map (·.add (0*r.sz))) (m-0) (cap-0),?_,po.2 ⟨_,cap-0,by rw [hlen],by omega,by omega,ES h4 h7 h8 h2⟩⟩
  simp [execOp,Instr.sliceAt,h1,h6,Instr.slice,lY ht,Instr.sliceBounds,md (k:=k') (n:=(m:Int)) (y:=cap) (by omega) (by omega),ti.sizeOf]
theorem Ns{lo:Operand}{i:Int}(ht:E.P.underlying t=some (.slice T))(ti:TI E.P T sz bytes agg z)(hsz:r.sz=sz)(hx:aJ E.N G x (tD (gi r) xs))(hlo:aJ E.N G lo (tD (rI k) i))(h:dE xs i (xs.length:Int)=some ys):bR E O G ⟨dst,.slice t x (some lo) none none,ty,pos,after,g⟩ (tD (gi r) ys):=
 .of_pure fun a w S _ _ hf=>by
  subst hsz
  obtain⟨ad,cap,h1,h2,h3,h4⟩:=po.1 (hx S a hf)
  have h5:=di.1 (hlo S a hf)
  obtain⟨l,m,rfl,hm,h7,h8,rfl⟩:=hZ h
  have hm' :m=xs.length:=by omega
  subst hm'
  have hlen:((xs.take xs.length).drop l).length=xs.length-l:=by simp
  refine⟨.slice (if cap=l then ad else ad.map (·.add (l*r.sz))) (xs.length-l) (cap-l),?_,po.2 ⟨_,cap-l,by rw [hlen],by omega,by omega,ES h4 h7 h8 h2⟩⟩
  simp [execOp,Instr.sliceAt,h1,h5,Instr.slice,lY ht,Instr.sliceBounds,md (k:=k) (n:=(l:Int)) (y:=xs.length) (by omega) (by omega),ti.sizeOf]
end
theorem qJ{id:Nat}(m:Nat)(hm:E.P.follows .mixedOrders=true)(hsl:wx E.N.n [] (L.take m)=true)(hlen:ts.length=(L.take m).length)(ht:zT L (L.take m).length (L.drop m).length=true)(hd:DR E O G L ts 0 (L.take m))(k:RG E L.toArray Q (L.drop m) O (No (L.take m) ts G)):CG E Q (.region id L.toArray true) O G:=T0 (wn m L).symm hm hsl hlen ht hd k

def sq(P:Program){α:Type} [DecidableEq α](t:TypeId)(r:Rp α)(n:Nat):Prop:=
 ∀(S:SH) (cs ds:List Value) (x y:α) (d:Nat) (w:World),r.rc S cs x→r.rc S ds y→(Op.equalIn (d+n) t (r.val cs) (r.val ds)).run P w= .ok (decide (x=y)) w
theorem Em(h:P.underlying t=some (.int k')):sq P t (rI k) (n+1):=fun S cs ds x y d w hx hy=>by
 have h1:cs=[.int k x]:=hx
 have h2:ds=[.int k y]:=hy
 subst h1 h2
 have:(Op.equalIn (d+n+1) t (.int k x) (.int k y)).run P w= .ok (x==y) w:=by simp [Op.equalIn,lY h]
 have e:(x==y)=decide (x=y):=by by_cases h:x=y<;>simp [h]
 rw [e]at this
 exact this
theorem WA(h:P.underlying t=some .string):sq P t rS (n+1):=fun S cs ds x y d w hx hy=>by
 have h1:cs=[.string ⟨x.toArray⟩]:=hx
 have h2:ds=[.string ⟨y.toArray⟩]:=hy
 subst h1 h2
 have:=run_equalIn_string (P:=P) w (d+n) t ⟨x.toArray⟩ ⟨y.toArray⟩ h
 simp only [Rp.val,rS,List.headD_cons,gm,d9]
 rw [show d+(n+1)=d+n+1 from rfl,this]
 simp only [ByteArray.toList_eq]
 by_cases e:x=y<;>simp [e]
abbrev Fd:=TypeId×Nat×Bool
def NP(f:Field):Fd:=(f.type,f.offset,f.name== "_")
def QR(d:Nat)(xs ys:Array Value):List Fd→Sem Bool
 |[]=>pure true
 |f::fs=>
  if f.2.2=false then do
   let a←part f.1 xs f.2.1
   let b←part f.1 ys f.2.1
   let r←Op.equalIn d f.1 a b
   if(!r)=true then pure false else QR d xs ys fs
  else QR d xs ys fs
theorem LN(d:Nat)(xs ys:Array Value): ∀fs:List Field,Op.eqFields d xs ys fs=QR d xs ys (fs.map NP)
 |[]=>rfl
 |f::fs=>by
  unfold Op.eqFields QR
  rw [LN d xs ys fs]
  by_cases h:f.name= "_"
  ·have e:((NP f).2.2=false)=False:=by simp [NP,h]
   simp only [vt,e,d9]
   rw [aK (by simpa using h)]
  ·have e:((NP f).2.2=false)=True:=by simp [NP,h]
   simp only [vt,e,eg]
   rw [aY (by simpa using h)]
   rfl
def TX(P:Program){α:Type}(r:Rp α)(n:Nat)(fs:List Fd)(c:α→α→Bool):Prop:=
 ∀(S:SH) (cs ds:List Value) (x y:α) (d:Nat) (w:World),r.rc S cs x→r.rc S ds y→(QR (d+n) cs.toArray ds.toArray fs).run P w= .ok (c x y) w
theorem TX.nil:TX P r n [] (fun _ _=>true):=fun _ _ _ _ _ _ _ _ _=>rfl
theorem sR(ti:TI P t sz bytes agg z)(hsz:q.sz=sz)(hag:q.agg=agg)(hf:qH r off q get){cs:List Value}{x:α}(hx:r.rc S cs x)(w:World):
  (part t cs.toArray off).run P w= .ok (q.val ((cs.drop off).take q.sz)) w:=by
 have h:=hf S cs x hx
 have hl:=q.len h
 subst hsz hag
 unfold part
 by_cases ha:q.agg=true
 ·have e1:=ti.isAgg w
  simp only [xr,e1,ha,zB,eg,ti.sizeOf,Sem.run_pure]
  unfold Rp.val
  rw [aY ha]
  congr 2
  apply Array.ext'
  simp
 ·rw [Al]at ha
  have e1:=ti.isAgg w
  have hs1:=q.sc ha
  simp only [xr,e1,ha,zB,gm,d9]
  rw [hs1]at hl ⊢
  obtain⟨v,hv⟩:=List.length_eq_one_iff.1 hl
  have hc:cs[off]? =some v:=by
   have:((cs.drop off).take 1)[0]? =some v:=by rw [hv];rfl
   rw [Ch (by omega),xK]at this
   simpa using this
  unfold Rp.val
  rw [hv,ha]
  simp [hc]
theorem TX.cons [DecidableEq β]{t:Nat}{fs:List Fd}{c:α→α→Bool}(ti:TI P t sz bytes agg z)(hsz:q.sz=sz)(hag:q.agg=agg)(hf:qH r off q get)(he:sq P t q n)(hr:TX P r n fs c):
  TX P r n ((t,off,false)::fs) (fun x y=>decide (get x=get y)&&c x y):=fun S cs ds x y d w hx hy=>by
 have h1:=sR ti hsz hag hf hx w
 have h2:=sR ti hsz hag hf hy w
 have h3:=he S _ _ _ _ d w (hf S cs x hx) (hf S ds y hy)
 unfold QR
 simp only [eg,xr,h1,h2,h3,zB]
 by_cases e:get x=get y
 ·simp only [e,C5,mL,gm,d9,u9]
  exact hr S cs ds x y d w hx hy
 ·simp [e]
theorem N1 [DecidableEq α]{t:Nat}{fs:List Fd}{c:α→α→Bool}(ht:(P.underlying t).map (fun d=>match d with| .struct l=>(true,l.toList.map NP)|_=>(false,[]))=some (true,fs))(hp:P.stoodInHeld t=false)(ha:r.agg=true)(hr:TX P r n fs c)(hc: ∀x y,c x y=decide (x=y)):sq P t r (n+1):=fun S cs ds x y d w hx hy=>by
 obtain⟨l,h1,h2⟩: ∃l,P.underlying t=some (.struct l)∧l.toList.map NP=fs:=by
  cases hu:P.underlying t with
  |none=>rw [hu]at ht;cases ht
  |some d=>
   rw [hu]at ht
   cases d<;>simp at ht
   exact⟨_,rfl,ht⟩
 have hfo:P.fieldsOf t=l:=by unfold Program.fieldsOf;rw [h1]
 have:=run_equalIn_struct (P:=P) w (d+n) t cs.toArray ds.toArray (by rw [hfo];exact h1) hp
 rw [sM ha,sM ha,show d+(n+1)=d+n+1 from rfl,this,hfo,LN,h2,hr S cs ds x y d w hx hy,hc]
theorem wh [DecidableEq α](h:sq P t r n)(m:Nat):sq P t r (m+n):=fun S cs ds x y d w hx hy=>by
 have:=h S cs ds x y (d+m) w hx hy
 rwa [Nat.add_assoc]at this
theorem X2.of [DecidableEq α](hg:P.eqGuardType P.depth t=false)(h:sq P t r 20):X2 P t r:=⟨hg,fun S cs ds x y d w hx hy=>h S cs ds x y d w hx hy⟩

theorem dg{l:List α}{e:α}(h:xs.drop i=e::l):decide ((i:Int)<(xs.length:Int))=true:=by
 have:i<xs.length:=by
  rcases nW i xs.length with h' |h'
  ·exact h'
  ·rw [DN h']at h;cases h
 simp;omega
theorem dm(h:xs.drop i=[]):decide ((i:Int)<(xs.length:Int))=false:=by
 have:=Ib.1 h
 simp;omega
theorem cw{l:List α}{e:α}(h:xs.drop i=e::l):xs.drop (i+1)=l:=by
 rw [←qL,h];rfl
theorem cT{l:List α}{e:α}(h:xs.drop i=e::l):cN xs (i:Int)=some e:=by
 rw [bT]
 have:=xK (xs:=xs) (i:=i) (j:=0)
 rw [h]at this
 simpa using this.symm
theorem cx{l:List α}{e:α}(h:xs.drop i=e::l)(hN:xs.length≤maxLen):i<9223372036854775807:=by
 have:=JU (dg h)
 simp only [maxLen]at hN
 omega
theorem aap{k:Nat}(h:N-i=k+1):decide ((i:Int)<(N:Int))=true:=by simp;omega
theorem aaq(h:N-i=0):decide ((i:Int)<(N:Int))=false:=by simp;omega
theorem UQ{k:Nat}(h:N-i=k+1):N-(i+1)=k:=by omega
theorem UR{k:Nat}(h:N-i=k+1)(hN:N≤9223372036854775807):i<9223372036854775807:=by omega
theorem UT(h:n≤maxLen):n≤9223372036854775807:=by simp only [maxLen]at h;omega
variable{ix:Operand}{mm:Bool}{zs:List α}
section
variable{e:Exit}
section
variable{ty:TypeId}
theorem Bw{one:Operand}{xt yt:TypeId}(hi:i<9223372036854775807)(hx:aJ E.N G x (tD (rI .i64) (i:Int)))(h1:aJ E.N G one (tD (rI .i64) 1)):
  bR E O G ⟨dst,.binOp .add xt x one yt,ty,pos,after,g⟩ (tD (rI .i64) ((i+1:Nat):Int)):=by
 have e:IntKind.i64.wrap ((i:Int)+1)=((i+1:Nat):Int):=by
  rw [wk];omega
 have:=nY (E:=E) (O:=O) (dst:=dst) (ty:=ty) (pos:=pos) (after:=after) (g:=g) (xt:=xt) (yt:=yt) hx h1
 rwa [e]at this
end
theorem o0(hm:mB mm r T l cap xs∈O)(h:xs.length≤maxLen→CG E Q c O G):CG E Q c O G:=fun a w S st=>by
 refine h ?_ a w S st
 obtain⟨cells,h1,_⟩:=(st.own.mem _ hm).1
 cases l with
 |none=>have:=h1.1;omega
 |some b=>obtain⟨cur,_,g2,g3,_⟩:=h1;exact zN g2 g3
theorem St.dataAt{k:Nat}(h:St E O G a w S)(hk:dn G k=some (tO r l cap xs)):St E O ((k,tD (gi r) xs)::G) a w S:=h.cons (h.facts.at_ k _ hk).2
theorem jR(k:Nat)(hk:dn G k=some (tO r l cap xs))(h:AT E Q e O ((k,tD (gi r) xs)::G)):AT E Q e O G:=fun a w S st=>h a w S (st.dataAt hk)
def qa(l:Option Nat)(off:Nat):Value:=
 match l with
 |none=> .pointer none
 |some b=>aO b off
theorem vK(h:CT mm r T l cap xs w S){e:α}(hi:xs[i]? =some e):
  ∃b cur,l=some b∧w.heap[b]? =some (.cells cur T (0,0))∧xs.length≤cap∧cur.size=cap*r.sz∧r.rc S ((cur.toList.drop (i*r.sz)).take r.sz) e:=by
 obtain⟨cells,h1,h2,_⟩:=h
 have hlt:=(ke.1 hi).1
 cases l with
 |none=>have:=h1.1;omega
 |some b=>
  obtain⟨cur,g1,g2,g3,g4,g5⟩:=h1
  refine⟨b,cur,rfl,g1,g2,g4,?_⟩
  have h3:=D8 h2 hi
  rw [←g5,A6,Ce]at h3
  have h4:i*r.sz+r.sz≤xs.length*r.sz:=by
   rw [←Nat.succ_mul];exact Cg _ hlt
  rwa [xO (by omega)]at h3
theorem nv{i:Int}{e:α}(h:cN xs i=some e):0≤i∧xs[i.toNat]? =some e:=by
 unfold cN at h
 split at h
 ·exact⟨by assumption,h⟩
 ·cases h
section
variable{ty:TypeId}
theorem cM{e:TypeId}{i:Int}(ht:E.P.underlying t=some (.slice e))(ti:TI E.P e sz bytes agg z)(hm:mB mm r U l cap xs∈O)(hx:aJ E.N G x (tV (aT l cap n)))(hi:aJ E.N G ix (tD (rI k) i))(hy:cN xs i=some y)(hn:n=xs.length:=by rfl):
  bR E O G ⟨dst,.indexAddr t x ix,ty,pos,after,g⟩ (tV (qa l (i.toNat*sz+0))):=
 .of_pure fun a w S _ ho hf=>by
  subst hn
  have h1:a.eval x=aT l cap xs.length:=hx S a hf
  have h3:a.eval ix= .int k i:=di.1 (hi S a hf)
  obtain⟨h0,hy'⟩:=nv hy
  obtain⟨b,cur,rfl,_⟩:=vK (ho.mem _ hm).1 hy'
  have hlt:i.toNat<xs.length:=(ke.1 hy').1
  refine⟨_,?_,rfl⟩
  have hc:0≤i∧i<(xs.length:Int):=⟨h0,by omega⟩
  simp [execOp,h1,h3,aT,Instr.indexAt,asIntOf,lY ht,hc,ti.sizeOf,j6,qa,aO]
theorem gG{foff:Nat}{i:Int}{p:Operand}(ti:TI E.P T sz bytes agg z)(hsz:q.sz=sz)(hag:q.agg=agg)(hget:qH r foff q get)(hoff:Nat.ble (foff+q.sz) r.sz=true)(hm:mB mm r U l cap xs∈O)(hy:cN xs i=some y)(hp:aJ E.N G p (tV (qa l (i.toNat*r.sz+foff)))):bR E O G ⟨dst,.load T p,ty,pos,after,g⟩ (tD q (get y)):=
 .of_pure fun a w S _ ho hf=>by
  have h1:a.eval p=qa l (i.toNat*r.sz+foff):=hp S a hf
  obtain⟨h0,hy'⟩:=nv hy
  obtain⟨b,cur,rfl,hb,_,_,h6⟩:=vK (ho.mem _ hm).1 hy'
  have hoff' :=pw hoff
  have h7:=hget S _ _ h6
  rw [A6,Ce,qL,xO (by omega)]at h7
  refine⟨_,?_,_,rfl,h7⟩
  simp [execOp,h1,qa,aO,Instr.loadAt,Instr.sureAddr,me ti hb hsz hag h7]
theorem GL{o:Nat}{p:Operand}(hf:cV E.P T i=some (off,sz))(h0:Nat.beq sz 0=false)(hm:mB mm r U l cap xs∈O)(hy:cN xs j=some y)(hp:aJ E.N G p (tV (qa l o))):
  bR E O G ⟨dst,.fieldAddr T p i,ty,pos,after,g⟩ (tV (qa l (o+off))):=
 .of_pure fun a w S _ ho hF=>by
  have h1:a.eval p=qa l o:=hp S a hF
  obtain⟨_,hy'⟩:=nv hy
  obtain⟨b,cur,rfl,_⟩:=vK (ho.mem _ hm).1 hy'
  obtain⟨fs,f,e1,e2,e3,e4⟩:=Cq hf
  have h0' :sz≠0:=fun e=>by subst e;simp at h0
  refine⟨_,?_,rfl⟩
  simp [execOp,h1,qa,aO,Instr.fieldAt,lY e1,e2,Instr.sureAddr,fieldPlace,e4,h0',e3,j6]
end
theorem IM{α:Type}{r:Rp α}{S:SH}{y:α}{c:List Value}(hc:r.rc S c y): ∀{xs:List α} {i:Nat} {cs:List Value},vf r S cs xs→i<xs.length→vf r S (cs.take (i*r.sz)++c++cs.drop (i*r.sz+r.sz)) (xs.set i y)
 |[],_,_,_,h=>by simp at h
 |x::xs,0,cs,⟨a,b,e,h1,h2⟩,_=>by
  have hl:=r.len h1
  refine⟨c,b,?_,hc,h2⟩
  rw [e,←hl];simp
 |x::xs,i+1,cs,⟨a,b,e,h1,h2⟩,h=>by
  have hl:=r.len h1
  have ih:=IM hc h2 (i:=i) (by simpa using h)
  refine⟨a,_,?_,h1,ih⟩
  have e1:(i+1)*r.sz=a.length+i*r.sz:=by rw [hl,u8];omega
  rw [e,e1,List.take_length_add_append,Nat.add_assoc,List.drop_length_add_append]
  simp
theorem tw{set:α→β→α}{foff:Nat}{v:β}{i:Int}{p:Operand}{ty:TypeId}(ti:TI E.P T sz bytes agg z)(hsz:q.sz=sz)(hset:ko r foff q set)(hoff:Nat.ble (foff+q.sz) r.sz=true)(hy:cN xs i=some y)(hz:xs.set i.toNat (set y v)=zs)(hp:aJ E.N G p (tV (qa l (i.toNat*r.sz+foff))))(hx:aJ E.N G x (tD q v))(k:RG E ops Q rest (fE r U l cap zs::O) G):
  RG E ops Q (⟨none,.store T p x,ty,pos,after,none⟩::rest) (fE r U l cap xs::O) G:= .of rfl fun a w S st=>by
 subst hz
 have h1:a.eval p=qa l (i.toNat*r.sz+foff):=hp S a st.facts
 obtain⟨ds,h2,h3⟩:=hx S a st.facts
 obtain⟨h0,hy'⟩:=nv hy
 have hlt:i.toNat<xs.length:=(ke.1 hy').1
 obtain⟨cells,hraw,hrc,hno⟩:=st.own.1.1
 obtain⟨b,cur,rfl,hb,hle,hcs,h6⟩:=vK st.own.1.1 hy'
 obtain⟨cur',hb',hle',hmax,hcs',hct⟩:=hraw
 have hcc:cur' =cur:=by rw [hb]at hb';injection hb' with e;injection e with e1;exact e1.symm
 subst hcc
 have hno' :S b=none:=hno b rfl
 have hoff' :=pw hoff
 have hl3:=q.len h3
 have hmul:i.toNat*r.sz+r.sz≤xs.length*r.sz:=by rw [←Nat.succ_mul];exact Cg _ hlt
 have hmul2:xs.length*r.sz≤cur'.size:=by rw [hcs];exact Cg _ hle
 obtain⟨w',hr,e1,e2,e3,e4,e5,e6⟩:=ld ti hsz h3 hb (off:=i.toNat*r.sz+foff) (by omega)
 have hrun:(execOp a.eval ⟨none,.store T p x,ty,pos,after,none⟩).run E.P w= .ok .skip w' :=by
  simp [execOp,h1,h2,Instr.storeAt,qa,aO,Instr.sureAddr,hr]
 refine⟨fun c h=>(by cases h),?_⟩
 rw [hrun]
 have hnew:=hset S _ _ _ _ h6 h3
 have hrc' :=IM hnew hrc hlt
 have hcl:=pq hrc
 have hcells:(cur'.toList.take (i.toNat*r.sz+foff)++ds++cur'.toList.drop (i.toNat*r.sz+foff+q.sz)).take (xs.length*r.sz)=
   cells.take (i.toNat*r.sz)++(((cur'.toList.drop (i.toNat*r.sz)).take r.sz).take foff++ds++((cur'.toList.drop (i.toNat*r.sz)).take r.sz).drop (foff+q.sz))++cells.drop (i.toNat*r.sz+r.sz):=by
  subst hct
  apply JT
  intro j
  simp only [List.getElem?_take,List.getElem?_append,xK,zO,Ex,jg,Ey]
  rcases nW j (xs.length*r.sz)with hj|hj
  ·simp only [hj,eg]
   rcases nW j (i.toNat*r.sz)with hj1|hj1
   ·rw [aY (by omega),aY (by omega),aY (by omega),aY (by omega),aY (by omega),aY (by omega)]
   ·rcases nW j (i.toNat*r.sz+foff)with hj2|hj2
    ·rw [aY (by omega),aY (by omega),aY (by omega),aY (by omega),aK (by omega),aY (by omega),aY (by omega),aY (by omega),aY (by omega)]
     congr 1;omega
    ·rcases nW j (i.toNat*r.sz+foff+q.sz)with hj3|hj3
     ·rw [aY (by omega),aK (by omega),aY (by omega),aK (by omega),aY (by omega),aK (by omega)]
      congr 1;omega
     ·rw [aK (by omega)]
      rcases nW j (i.toNat*r.sz+r.sz)with hj4|hj4
      ·rw [aY (by omega),aK (by omega),aK (by omega),aY (by omega)]
       congr 1;omega
      ·rw [aK (by omega),aY (by omega)]
       congr 1;omega
  ·rw [aK (by omega),aK (by omega),aK (by omega)]
 obtain⟨g1,g2,g3⟩:=q5 (O:=O) st.sat (fE r U (some b) cap xs) (fE r U (some b) cap (xs.set i.toNat (set y v))) st.own (fun k=>⟨fun h=>(p5 h).symm,fun h=>by rw [h];rfl⟩) (fun k=>⟨fun h=>(p5 h).symm,fun h=>by rw [h];rfl⟩) ⟨e1,e2,e3,e4.1,e4.2⟩ e6
  ⟨_,⟨_,e5,by rw [List.length_set];exact hle,hmax,by simp only [G6,jg,zO,Ex,Ey];omega,by rw [List.length_set];exact hcells⟩,hrc',fun k hk=>by rw [←p5 hk];exact hno'⟩ hno'
 exact k _ _ S ⟨st.ext.step g1 (fun c hc=>st.own.1.2 c (by rw [hc];rfl)),g2,g3,st.facts⟩

def o4(sz:Nat)(l:Option Nat)(cap lo n:Nat):Value:=
 match l with
 |none=> .slice none 0 0
 |some b=> .slice (some ⟨b,if cap=lo then 0 else lo*sz,none⟩) n (cap-lo)
section
variable{ty:TypeId}
theorem Hu(h:CT mm r U l cap xs w S): ∃ad c,aT l cap xs.length= .slice ad xs.length c∧xs.length≤c∧ad=l.map (fun b=>⟨b,0,none⟩)∧(l=none→c=0∧xs=[])∧(l≠none→c=cap):=by
 obtain⟨cells,h1,_⟩:=h
 cases l with
 |none=>
  have hx:xs=[]:=uD h1.1
  subst hx
  exact⟨none,0,rfl,dh _,rfl,fun _=>⟨rfl,rfl⟩,fun h=>absurd rfl h⟩
 |some b=>
  obtain⟨cur,_,g2,_⟩:=h1
  exact⟨_,cap,rfl,g2,rfl,fun h=>(by cases h),fun _=>rfl⟩
theorem ly{hi:Operand}(ht:E.P.underlying t=some (.slice T))(ti:TI E.P T sz bytes agg z)(hsz:r.sz=sz)(hm:mB mm r U l cap xs∈O)(hx:aJ E.N G x (tV (aT l cap n)))(hhi:aJ E.N G hi (tD (rI k') j))(h:dE xs 0 j=some ys)(hn:n=xs.length:=by rfl):bR E O G ⟨dst,.slice t x none (some hi) none,ty,pos,after,g⟩ (tV (aT l cap ys.length)):=
 .of_pure fun a w S _ ho hf=>by
  subst hsz
  subst hn
  have h1:a.eval x=aT l cap xs.length:=hx S a hf
  obtain⟨ad,c,h2,h3,h4,h5,h5'⟩:=Hu (ho.mem _ hm).1
  have h6:=di.1 (hhi S a hf)
  obtain⟨lo,m,hl,rfl,h7,h8,rfl⟩:=hZ h
  have hl0:lo=0:=by omega
  subst hl0
  have hlen:((xs.take m).drop 0).length=m:=by simp;omega
  refine⟨_,?_,rfl⟩
  rw [h2]at h1
  have hr:(execOp a.eval ⟨dst,.slice t x none (some hi) none,ty,pos,after,g⟩).run E.P w= .ok (.value (.slice ad m c)) w:=by
   simp [execOp,Instr.sliceAt,h1,h6,Instr.slice,lY ht,Instr.sliceBounds,md (k:=k') (n:=(m:Int)) (y:=c) (by omega) (by omega),ti.sizeOf]
   cases ad<;>simp [Addr.add]
  rw [hr,hlen,h4]
  cases l with
  |none=>
   obtain⟨rfl,rfl⟩:=h5 rfl
   have:m=0:=by simpa using h8
   subst this;rfl
  |some b=>rw [h5' (by simp)];rfl
theorem ox{lo:Operand}{i:Int}(ht:E.P.underlying t=some (.slice T))(ti:TI E.P T sz bytes agg z)(hsz:r.sz=sz)(hm:mB mm r U l cap xs∈O)(hx:aJ E.N G x (tV (aT l cap n)))(hlo:aJ E.N G lo (tD (rI k) i))(h:dE xs i (xs.length:Int)=some ys)(hn:n=xs.length:=by rfl):bR E O G ⟨dst,.slice t x (some lo) none none,ty,pos,after,g⟩ (tV (o4 sz l cap i.toNat ys.length)):=
 .of_pure fun a w S _ ho hf=>by
  subst hsz
  subst hn
  have h1:a.eval x=aT l cap xs.length:=hx S a hf
  obtain⟨ad,c,h2,h3,h4,h5,h5'⟩:=Hu (ho.mem _ hm).1
  have h6:=di.1 (hlo S a hf)
  obtain⟨lo',m,rfl,hm',h7,h8,rfl⟩:=hZ h
  have hm2:m=xs.length:=by omega
  subst hm2
  have hlen:((xs.take xs.length).drop lo').length=xs.length-lo' :=by simp
  refine⟨_,?_,rfl⟩
  rw [h2]at h1
  have hr:(execOp a.eval ⟨dst,.slice t x (some lo) none none,ty,pos,after,g⟩).run E.P w= .ok (.value (.slice (if c=lo' then ad else ad.map (·.add (lo' *r.sz))) (xs.length-lo') (c-lo'))) w:=by
   simp [execOp,Instr.sliceAt,h1,h6,Instr.slice,lY ht,Instr.sliceBounds,md (k:=k) (n:=(lo' :Int)) (y:=xs.length) (by omega) (by omega),ti.sizeOf]
  rw [hr,hlen,h4]
  cases l with
  |none=>
   obtain⟨rfl,rfl⟩:=h5 rfl
   have:lo' =0:=by simpa using h7
   subst this;rfl
  |some b=>
   rw [h5' (by simp)]
   unfold o4
   simp only [A2,Option.map_some,j6,qS]
   split<;>rfl
theorem ER{i:Int}(h:dE xs lo hi=some ys)(hy:cN ys i=some y):cN xs (lo+i)=some y∧0≤lo∧0≤i:=by
 obtain⟨l,m,rfl,rfl,h1,h2,rfl⟩:=hZ h
 obtain⟨h0,h3⟩:=nv hy
 refine⟨?_,by omega,h0⟩
 obtain⟨j,rfl⟩: ∃j:Nat,i=j:=⟨i.toNat,by omega⟩
 rw [show((l:Int)+(j:Int))=((l+j:Nat):Int)from by omega,bT]
 rw [xK,A2]at h3
 have hlt:l+j<m:=by
  have:=(ke.1 h3).1
  simp at this;omega
 rwa [Ch hlt]at h3
theorem GJ{e:TypeId}{i:Int}(ht:E.P.underlying t=some (.slice e))(ti:TI E.P e sz bytes agg z)(hsz:r.sz=sz)(hm:mB mm r U l cap xs∈O)(hs:dE xs lo hi=some ys)(hx:aJ E.N G x (tV (o4 sz l cap lo.toNat ys.length)))(hi' :aJ E.N G ix (tD (rI k) i))(hy:cN ys i=some y):
  bR E O G ⟨dst,.indexAddr t x ix,ty,pos,after,g⟩ (tV (qa l ((lo+i).toNat*sz+0))):=
 .of_pure fun a w S _ ho hf=>by
  subst hsz
  have h1:a.eval x=o4 r.sz l cap lo.toNat ys.length:=hx S a hf
  have h3:a.eval ix= .int k i:=di.1 (hi' S a hf)
  obtain⟨hxi,hl0,hi0⟩:=ER hs hy
  obtain⟨_,hx'⟩:=nv hxi
  obtain⟨b,cur,rfl,_,hle,_⟩:=vK (ho.mem _ hm).1 hx'
  have hlt:i.toNat<ys.length:=(ke.1 (nv hy).2).1
  have hlt2:(lo+i).toNat<xs.length:=(ke.1 hx').1
  have hne: ¬(cap=lo.toNat):=by omega
  refine⟨_,?_,rfl⟩
  have hc:0≤i∧i<(ys.length:Int):=⟨hi0,by omega⟩
  have e1:(lo+i).toNat=lo.toNat+i.toNat:=by omega
  simp [execOp,h1,h3,o4,hne,Instr.indexAt,asIntOf,lY ht,hc,ti.sizeOf,j6,qa,aO,e1,u8]
theorem UJ{e:TypeId}(ht:E.P.underlying t=some (.slice e))(hm:mB mm r U l cap xs∈O)(hs:dE xs lo hi=some ys)(hx:aJ E.N G x (tV (o4 sz l cap lo.toNat ys.length))):
  bR E O G ⟨dst,.call ⟨.builtin .len,#[x],#[t]⟩,ty,pos,after,g⟩ (tD (rI .i64) (ys.length:Int)):=
 .of_pure fun a w S _ ho hf=>by
  have h1:a.eval x=o4 sz l cap lo.toNat ys.length:=hx S a hf
  obtain⟨ad,c,h3⟩: ∃ad c,o4 sz l cap lo.toNat ys.length= .slice ad ys.length c:=by
   cases l with
   |none=>
    obtain⟨_,h2,_⟩:=(ho.mem _ hm).1
    have hx0:xs=[]:=uD h2.1
    subst hx0
    obtain⟨l',m,_,_,_,h8,rfl⟩:=hZ hs
    exact⟨none,0,by simp [o4]⟩
   |some b=>exact⟨_,_,rfl⟩
  refine⟨.int .i64 ys.length,?_,di.2 rfl⟩
  simp [execOp,resolve,invoke,builtin,Builtin.len_,lY ht,h1,h3,goInt]
end
theorem WQ(h:dE xs 0 j=some ys)(k:CT false r U l cap xs w S):CT false r U l cap ys w S:=by
 obtain⟨lo,m,hl,rfl,h7,h8,rfl⟩:=hZ h
 have hl0:lo=0:=by omega
 subst hl0
 obtain⟨cells,h1,h2,h3⟩:=k
 have hlen:((xs.take m).drop 0).length=m:=by simp;omega
 have h4:vf r S (cells.take (m*r.sz)) (xs.take m):=by
  have e:xs=xs.take m++xs.drop m:=(wn _ _).symm
  rw [e]at h2
  have:=(qZ h2).1
  rwa [show(xs.take m).length=m from by simp;omega]at this
 refine⟨cells.take (m*r.sz),?_,by simpa using h4,fun b hb=>h3 b hb⟩
 rw [hlen]
 cases l with
 |none=>
  obtain⟨g1,g2⟩:=h1
  exact⟨by omega,by rw [g2];simp⟩
 |some b=>
  obtain⟨cur,g1,g2,g3,g4,g5⟩:=h1
  exact⟨cur,g1,by omega,g3,g4,by rw [←g5,Ce,xO (Cg _ h8)]⟩
theorem St.cut(h:dE xs 0 j=some ys)(st:St E (fE r U l cap xs::O) G a w S):St E (fE r U l cap ys::O) G a w S:=
 st.own_map fun ho=>⟨⟨WQ h ho.1.1,ho.1.2⟩,ho.2.1,ho.2.2⟩
theorem xc(h:dE xs 0 j=some ys)(k:RG E ops Q rest (fE r U l cap ys::O) G):RG E ops Q rest (fE r U l cap xs::O) G:=fun a w S st=>k a w S (st.cut h)
end

variable{x0 x4 x5 x6 x7 x8 x9:OE}
section
variable{e:Exit}
theorem AU{O:List OE}(h:cL base B w S (x0::x1::x2::x3::x4::x5::O)):cL base B w S (x5::x0::x1::x2::x3::x4::O):=
 (sn h uw (fun f hf=>by simp only [fx]at hf ⊢;rcases hf with h|h|h|h|h|h<;>simp [h])).swap
theorem HW(h:RG E ops Q rest (x5::x0::x1::x2::x3::x4::O) G):RG E ops Q rest (x0::x1::x2::x3::x4::x5::O) G:=fun a w S st=>h a w S (st.own_map AU)
theorem H9(h:AT E Q e (x5::x0::x1::x2::x3::x4::O) G):AT E Q e (x0::x1::x2::x3::x4::x5::O) G:=fun a w S st=>h a w S (st.own_map AU)
theorem uv{O:List OE}(h:cL base B w S (x0::x1::x2::x3::x4::x5::x6::O)):cL base B w S (x6::x0::x1::x2::x3::x4::x5::O):=
 (sn h AU (fun f hf=>by simp only [fx]at hf ⊢;rcases hf with h|h|h|h|h|h|h<;>simp [h])).swap
theorem zr(h:RG E ops Q rest (x6::x0::x1::x2::x3::x4::x5::O) G):RG E ops Q rest (x0::x1::x2::x3::x4::x5::x6::O) G:=fun a w S st=>h a w S (st.own_map uv)
theorem wi(h:AT E Q e (x6::x0::x1::x2::x3::x4::x5::O) G):AT E Q e (x0::x1::x2::x3::x4::x5::x6::O) G:=fun a w S st=>h a w S (st.own_map uv)
theorem H2(h:LG E Q c (x6::x0::x1::x2::x3::x4::x5::O) G):LG E Q c (x0::x1::x2::x3::x4::x5::x6::O) G:=fun a w S st=>h a w S (st.own_map uv)
theorem uu{O:List OE}(h:cL base B w S (x0::x1::x2::x3::x4::x5::x6::x7::O)):cL base B w S (x7::x0::x1::x2::x3::x4::x5::x6::O):=
 (sn h uv (fun f hf=>by simp only [fx]at hf ⊢;rcases hf with h|h|h|h|h|h|h|h<;>simp [h])).swap
theorem Ra(h:RG E ops Q rest (x7::x0::x1::x2::x3::x4::x5::x6::O) G):RG E ops Q rest (x0::x1::x2::x3::x4::x5::x6::x7::O) G:=fun a w S st=>h a w S (st.own_map uu)
theorem Rm(h:AT E Q e (x7::x0::x1::x2::x3::x4::x5::x6::O) G):AT E Q e (x0::x1::x2::x3::x4::x5::x6::x7::O) G:=fun a w S st=>h a w S (st.own_map uu)
theorem H1(h:LG E Q c (x7::x0::x1::x2::x3::x4::x5::x6::O) G):LG E Q c (x0::x1::x2::x3::x4::x5::x6::x7::O) G:=fun a w S st=>h a w S (st.own_map uu)
theorem AS{O:List OE}(h:cL base B w S (x0::x1::x2::x3::x4::x5::x6::x7::x8::O)):cL base B w S (x8::x0::x1::x2::x3::x4::x5::x6::x7::O):=
 (sn h uu (fun f hf=>by simp only [fx]at hf ⊢;rcases hf with h|h|h|h|h|h|h|h|h<;>simp [h])).swap
theorem H8(h:AT E Q e (x8::x0::x1::x2::x3::x4::x5::x6::x7::O) G):AT E Q e (x0::x1::x2::x3::x4::x5::x6::x7::x8::O) G:=fun a w S st=>h a w S (st.own_map AS)
theorem Rd(h:LG E Q c (x8::x0::x1::x2::x3::x4::x5::x6::x7::O) G):LG E Q c (x0::x1::x2::x3::x4::x5::x6::x7::x8::O) G:=fun a w S st=>h a w S (st.own_map AS)
theorem Ge{O:List OE}(h:cL base B w S (x0::x1::x2::x3::x4::x5::x6::x7::x8::x9::O)):cL base B w S (x9::x0::x1::x2::x3::x4::x5::x6::x7::x8::O):=
 (sn h AS (fun f hf=>by simp only [fx]at hf ⊢;rcases hf with h|h|h|h|h|h|h|h|h|h<;>simp [h])).swap
theorem eE(h:AT E Q e (x9::x0::x1::x2::x3::x4::x5::x6::x7::x8::O) G):AT E Q e (x0::x1::x2::x3::x4::x5::x6::x7::x8::x9::O) G:=fun a w S st=>h a w S (st.own_map Ge)
theorem zu(h:LG E Q c (x9::x0::x1::x2::x3::x4::x5::x6::x7::x8::O) G):LG E Q c (x0::x1::x2::x3::x4::x5::x6::x7::x8::x9::O) G:=fun a w S st=>h a w S (st.own_map Ge)
end

theorem mP(h:xs.set i y=zs):zs.length=xs.length:=by rw [←h,List.length_set]
section
theorem iX(hl:m=n)(s:Nat)(hs:dn G s=some (tV (aT l cap n)))(k:RG E ops Q rest O ((s,tV (aT l cap m))::G)):RG E ops Q rest O G:=by
 subst hl
 exact fun a w S st=>k a w S (st.cons (st.facts.at_ s _ hs))
end

theorem vS{s:Rp γ}{o1 o2:Nat}{g1:α→β}{g2:β→γ}(h1:qH r o1 q g1)(h2:qH q o2 s g2)(hb:Nat.ble (o2+s.sz) q.sz=true:=by rfl):qH r (o1+o2) s (fun x=>g2 (g1 x)):=fun S cs x h=>by
 have h3:=h2 S _ _ (h1 S cs x h)
 have hb' :=pw hb
 rwa [A6,Ce,qL,xO (by omega)]at h3
theorem Hm{s:Rp γ}{o1 o2:Nat}{g1:α→β}{u1:α→β→α}{u2:β→γ→β}(h1:qH r o1 q g1)(k1:ko r o1 q u1)(k2:ko q o2 s u2)(hb:Nat.ble (o2+s.sz) q.sz=true:=by rfl)(hc:Nat.ble (o1+q.sz) r.sz=true:=by rfl):
  ko r (o1+o2) s (fun x y=>u1 x (u2 (g1 x) y)):=fun S cs x ds y h hy=>by
 have hb' :=pw hb
 have hc' :=pw hc
 have hl:=r.len h
 have h3:=k1 S cs x _ _ h (k2 S _ _ ds y (h1 S cs x h) hy)
 have e:cs.take (o1+o2)++ds++cs.drop (o1+o2+s.sz)=cs.take o1++(((cs.drop o1).take q.sz).take o2++ds++((cs.drop o1).take q.sz).drop (o2+s.sz))++cs.drop (o1+q.sz):=by
  rw [Ce,xO (by omega),A6,qL,List.take_add,show o1+(o2+s.sz)=o1+o2+s.sz from by omega]
  simp only [jX]
  congr 3
  have e2:cs.drop (o1+q.sz)=(cs.drop (o1+o2+s.sz)).drop (q.sz-(o2+s.sz)):=by rw [qL];congr 1;omega
  rw [e2,wn]
 rw [e];exact h3

def dd(P:Program)(f:FuncId)(ts:List Ty)(O1:List OE){ι:Type}(t:ι→Ty)(O2:ι→List OE):Prop:=
 ∀w S vs,jL w S→xA S ts vs→cL 0 p9 w S O1→Calls P f vs.toArray w fun en w' => ∃i v S',en= .returned v∧(t i).p S' v∧gn (fun k=> ∃f∈O1,f.fp k) w S w' S' ∧jL w' S' ∧cL 0 p9 w' S' (O2 i)∧ ∀k,(∃f∈O2 i,f.fp k)→(∃f∈O1,f.fp k)∨w.heap.size≤k
def S8(E:En)(O1:List OE){ι:Type}(t:ι→Ty)(O2:ι→List OE):Ending→World→Prop:=fun en w' =>
 ∃i v S',en= .returned v∧(t i).p S' v∧gn E.B E.w0 E.S0 w' S' ∧jL w' S' ∧cL 0 p9 w' S' (O2 i)∧ ∀k,(∃f∈O2 i,f.fp k)→(∃f∈O1,f.fp k)∨E.w0.heap.size≤k
def AE(O1:List OE):Nat→Prop:=fun k=> ∃f∈O1,f.fp k
theorem dd.of{t:ι→Ty}(hf:P.funcs[f]? =some fn)(hb:fn.body=some c)(hN:fn.ntmps=N)(hn:Nat.ble ts.length N=true)(h: ∀w0 S0,CG ⟨P,⟨N,[]⟩,AE O1,w0,S0,none⟩ (bodyPost P fn (S8 ⟨P,⟨N,[]⟩,AE O1,w0,S0,none⟩ O1 t O2)) c O1 (uc 0 ts)):dd P f ts O1 t O2:=by
 subst hN
 intro w S vs hs hv ho
 exact jU.1 (Eu (F:=fw none) (n:=0) hf hb trivial (h w S _ w S ⟨gn.refl _ _ _,hs,kK ho fun f hf k hk=> .inr ⟨f,hf,hk⟩,m9 hv _ (pw hn)⟩))
theorem PC{t:ι→Ty}{v:Value}(st:St E O G a w S)(hB:E.B=AE O1)(i:ι)(hO:O=O2 i)(hv:(t i).p S v):S8 E O1 t O2 (.returned v) w:=by
 subst hO
 refine⟨i,v,S,rfl,hv,st.ext,st.sat,st.own.weak,fun k ⟨f,hf,hk⟩=>?_⟩
 rcases(cL.mem st.own f hf).2 k hk with h|h
 ·exact .inr h
 ·rw [hB]at h;exact .inl h
section
variable{t:ι→Ty}
theorem nG{k:Nat}{u:Ty}(hr:fn.results= #[.tmp k])(i:ι)(hO:O=O2 i)(hk:dn G k=some u)(hu: ∀S v,u.p S v→(t i).p S v):
  AT ⟨P,⟨N,[]⟩,AE O1,w0,S0,none⟩ (bodyPost P fn (S8 ⟨P,⟨N,[]⟩,AE O1,w0,S0,none⟩ O1 t O2)) .ret O G:=fun _ _ S st=>
 ⟨st.facts.defers,_,np P fn k hr _ _,PC st rfl i hO (hu S _ (st.facts.at_ k u hk))⟩
end
theorem B8: ∀{O1 O2:List OE},cL base B w S O1→cL base B w S O2→(∀e∈O1,∀f∈O2,e.apart f)→cL base B w S (O1++O2)
 |[],_,_,h,_=>h
 |e::O1,O2,⟨h1,h2,h3⟩,h,ha=>⟨h1,fun f hf=>(zA.1 hf).elim (h2 f) (ha e (kZ ..) f),B8 h3 h fun g hg f hf=>ha g (kN _ hg) f hf⟩
section
variable{ty:TypeId}
theorem St.turn{Or O2:List OE}(st:St E (O1++Or) G a w S)(hx:gn (fun k=> ∃f∈O1,f.fp k) w S w' S')(hs:jL w' S')(ho:cL 0 p9 w' S' O2)(hn: ∀k,(∃f∈O2,f.fp k)→(∃f∈O1,f.fp k)∨w.heap.size≤k):St E (O2++Or) G a w' S' :=by
 obtain⟨h1,h2,h3⟩:=nU st.own
 have hbl:=st.base_le
 refine⟨st.ext.step hx (fun b ⟨f,hf,hb⟩=>(cL.mem h1 f hf).2 b hb),hs,B8 (kK ho fun f hf k hk=>?_) (h2.ext hx fun f hf b hb ⟨g,hg,hgb⟩=>h3 g hg f hf b hgb hb) (fun e he f hf b heb hfb=>?_),st.facts.mono hx.keep⟩
 ·rcases hn k ⟨f,hf,hk⟩with⟨g,hg,hgk⟩|h
  ·exact(cL.mem h1 g hg).2 k hgk
  ·exact .inl (zN hbl h)
 ·rcases hn b ⟨e,he,heb⟩with⟨g,hg,hgb⟩|h
  ·exact h3 g hg f hf b hgb hfb
  ·have:=f.here (cL.mem h2 f hf).1 b hfb
   omega
theorem B7{xs:List Operand}(O1 Or:List OE){t:ι→Ty}(hO:O=O1++Or)(hc:ak E.P f=true)(hs:dd E.P f ts O1 t O2)(hx:jV E.N G xs ts)(hd:Nat.blt d E.N.n=true)(k: ∀i,RG E ops Q rest (O2 i++Or) ((d,t i)::G)):
  RG E ops Q (⟨some d,.call ⟨.value (.func f),xs.toArray,ats⟩,ty,pos,after,none⟩::rest) O G:= .of rfl fun a w S st=>by
 subst hO
 have hr:(execOp a.eval ⟨some d,.call ⟨.value (.func f),xs.toArray,ats⟩,ty,pos,after,none⟩).run E.P w= .ok (.enter f (xs.map a.eval).toArray) w:=by
  simp [execOp,resolve,Act.eval,Deferred.ofValue,invoke,ei hc]
 refine⟨fun c h=>(by cases h),?_⟩
 rw [hr]
 refine(hs w S _ st.sat (hx.tys st.facts) (nU st.own).1.weak).mono fun en w' ⟨i,v,S',he,hv,h1,h2,h3,h4⟩=>⟨_,he,?_⟩;exact k i _ _ S' ((st.turn h1 h2 h3 h4).put hd hv)
end

structure OI where
 h:Nat→Option Nat×Nat:=fun _=>(none,0)
 os:List (Option Nat×Nat):=[]
 fp:Nat→Prop:=p9
 v:Value:=undef
 ng:Nat→(Option Nat×Nat)×(Nat→Option Nat×Nat):=fun _=>((none,0),fun _=>(none,0))
def p7:OI:={}
def oi(l:Option Nat)(c:Nat):OI:={h:=fun _=>(l,c)}
def EffOK(E:En)(O:List OE)(need:nm)(o:Oper)(post:OI→List OE)(t:OI→Ty):Prop:=
 ∀a w S,jL w S→cL E.base E.B w S O→cU E.N S a need→E.base≤w.heap.size→
  KR E.P o a w (fun a' w' => ∃v S' x,a' =a.put o.dst v∧gn (AE O) w S w' S' ∧jL w' S' ∧cL E.base E.B w' S' (post x)∧(t x).p S' v)
variable{post:OI→List OE}{t' :TypeId}
section
variable{ty:TypeId}
theorem N5{y:Operand}{u:OI→Ty}(ti:TI E.P T sz bytes agg z)(hsz:r.sz=sz)(hz:Nat.beq z.length sz=true)(h0:Nat.blt 0 sz=true)(h128:Nat.ble bytes 2048=true)(ht:E.P.underlying t=some (.slice T))(hx:aJ E.N G x (tV (aT l cap n)))(hy: ∀a w S,jL w S→cU E.N S a G→ ∃news,Src E.P r.sz t' (a.eval y) ys.length news w∧vf r S news ys)(happ:app xs ys=some zs)(hu: ∀l' cap' w0 S,(mB mm r T l' cap' zs).p w0 S→(u (oi l' cap')).p S (aT l' cap' zs.length))(hn:n=xs.length):
  EffOK E (mB mm r T l cap xs::O) G ⟨some d,.call ⟨.builtin .append,#[x,y],#[t,t']⟩,ty,pos,after,g⟩ (fun i=>mB mm r T (i.h 0).1 (i.h 0).2 zs::O) u:=fun a w S hs ho hf hb=>by
 subst hn
 have h1:a.eval x=aT l cap xs.length:=hx S a hf
 obtain⟨news,h2,h3⟩:=hy a w S hs hf
 obtain⟨l',cap',w',S',hr,hext,hsat,hh,hnew⟩:=ye (ty:=ty) ti hsz hz h0 h128 ht hs ho.1 hb h2 h3 happ
 have hrun:(execOp a.eval ⟨some d,.call ⟨.builtin .append,#[x,y],#[t,t']⟩,ty,pos,after,g⟩).run E.P w= .ok (.value (aT l' cap' zs.length)) w' :=by
  simp [execOp,resolve,invoke,builtin,h1,hr]
 refine⟨fun c h=>(by cases h),?_⟩
 rw [hrun]
 refine⟨_,S',oi l' cap',rfl,hext.more fun b hb=>⟨_,kZ ..,hb⟩,hsat,⟨hh,fun f hf b hb hfb=>?_,ho.2.2.ext hext fun f hf b hb hbl=>ho.2.1 f hf b hbl hb⟩,hu l' cap' w' S' hh.1⟩
 rcases hnew b hb with h|h
 ·exact ho.2.1 f hf b h hfb
 ·have:=f.here (cL.mem ho.2.2 f hf).1 b hfb
  omega
theorem uY{y:Operand}(ti:TI E.P T sz bytes agg z)(hsz:r.sz=sz)(hz:Nat.beq z.length sz=true)(h0:Nat.blt 0 sz=true)(h128:Nat.ble bytes 2048=true)(ht:E.P.underlying t=some (.slice T))(ht' :t' =t)(hx:aJ E.N G x (tO r l cap xs))(hy:aJ E.N G y (tD (gi r) ys))(happ:app xs ys=some zs):
  EffOK E (dW r T l cap xs::O) G ⟨some d,.call ⟨.builtin .append,#[x,y],#[t,t']⟩,ty,pos,after,g⟩ (fun i=>dW r T (i.h 0).1 (i.h 0).2 zs::O) (fun i=>tO r (i.h 0).1 (i.h 0).2 zs):=by
 subst ht'
 exact N5 ti hsz hz h0 h128 ht (Is hx) (fun a w S hs hf=>xY ht hs (hy S a hf)) happ (fun _ _ _ _ h=>⟨rfl,qe h⟩) rfl
theorem QV{xs:List Operand}{u:OI→Ty}(hc:ak E.P f=true)(hs:gp E.P f ts mm r T ys)(hx:jV E.N G xs ts)(hu: ∀l cap w0 S,(mB mm r T l cap ys).p w0 S→(u (oi l cap)).p S (aT l cap ys.length)):
  EffOK E O G ⟨some d,.call ⟨.value (.func f),xs.toArray,ats⟩,ty,pos,after,g⟩ (fun i=>mB mm r T (i.h 0).1 (i.h 0).2 ys::O) u:=fun a w S hsat ho hf hb=>by
 have hr:(execOp a.eval ⟨some d,.call ⟨.value (.func f),xs.toArray,ats⟩,ty,pos,after,g⟩).run E.P w= .ok (.enter f (xs.map a.eval).toArray) w:=by
  simp [execOp,resolve,Act.eval,Deferred.ofValue,invoke,ei hc]
 refine⟨fun c h=>(by cases h),?_⟩
 rw [hr]
 exact(hs w S _ hsat (hx.tys hf)).mono fun e w' ⟨l,cap,S',he,h1,h2,h3⟩=>⟨_,he,_,S',oi l cap,rfl,h1.more fun _ hb=>hb.elim,h2,ql ho h1 h3.1 (fun b hb=>(h3.2 b hb).resolve_right id) hb,hu l cap w' S' h3.1⟩
theorem cL.turn{Or O2:List OE}(h:cL base B w S (O1++Or))(hbl:base≤w.heap.size)(hx:gn (AE O1) w S w' S')(ho:cL 0 p9 w' S' O2)(hn: ∀k,(∃f∈O2,f.fp k)→(∃f∈O1,f.fp k)∨w.heap.size≤k):cL base B w' S' (O2++Or):=by
 obtain⟨h1,h2,h3⟩:=nU h
 refine B8 (kK ho fun f hf k hk=>?_) (h2.ext hx fun f hf b hb ⟨g,hg,hgb⟩=>h3 g hg f hf b hgb hb) (fun e he f hf b heb hfb=>?_)
 ·rcases hn k ⟨f,hf,hk⟩with⟨g,hg,hgk⟩|h
  ·exact(cL.mem h1 g hg).2 k hgk
  ·exact .inl (zN hbl h)
 ·rcases hn b ⟨e,he,heb⟩with⟨g,hg,hgb⟩|h
  ·exact h3 g hg f hf b hgb hfb
  ·have:=f.here (cL.mem h2 f hf).1 b hfb
   omega
theorem QU{xs:List Operand}(O1 Or:List OE){t:OI→Ty}{O2:OI→List OE}(hO:O=O1++Or)(hc:ak E.P f=true)(hs:dd E.P f ts O1 t O2)(hx:jV E.N G xs ts)(hpost: ∀i,O2 i++Or=post i):
  EffOK E O G ⟨some d,.call ⟨.value (.func f),xs.toArray,ats⟩,ty,pos,after,g⟩ post t:=fun a w S hsat ho hf hb=>by
 subst hO
 obtain rfl:(fun i=>O2 i++Or)=post:=funext hpost
 have hr:(execOp a.eval ⟨some d,.call ⟨.value (.func f),xs.toArray,ats⟩,ty,pos,after,g⟩).run E.P w= .ok (.enter f (xs.map a.eval).toArray) w:=by
  simp [execOp,resolve,Act.eval,Deferred.ofValue,invoke,ei hc]
 refine⟨fun c h=>(by cases h),?_⟩
 rw [hr]
 exact(hs w S _ hsat (hx.tys hf) (nU ho).1.weak).mono fun en w' ⟨i,v,S',he,hv,h1,h2,h3,h4⟩=>⟨_,he,v,S',i,rfl,h1.more fun b ⟨f,hf,hb⟩=>⟨f,Ha _ hf,hb⟩,h2,cL.turn ho hb h1 h3 h4,hv⟩
theorem AP{op:Op}{t:OI→Ty}(h:EffOK E O G ⟨some d,op,ty,pos,after,none⟩ post t)(hd:Nat.blt d E.N.n=true)(k: ∀x:OI,RG E ops Q rest (post x) ((d,t x)::G)):RG E ops Q (⟨some d,op,ty,pos,after,none⟩::rest) O G:= .of rfl fun a w S st=>
 oR (fun a' w' ⟨v,S',x,ha,hx,hs,ho,hv⟩=>by
  subst ha
  exact k x _ _ S' ⟨st.ext.step hx fun b ⟨f,hf,hb⟩=>(cL.mem st.own f hf).2 b hb,hs,ho,(st.facts.mono hx.keep).put hd hv⟩) (h a w S st.sat st.own st.facts st.base_le)
end

def MG(σ:Nat→OI)(k:Nat)(x:OI):Nat→OI:=fun j=>bif Nat.beq j k then x else σ j
theorem Rw(σ:Nat→OI)(k:Nat)(x:OI):MG σ k x k=x:=by simp [MG]
theorem EJ(σ:Nat→OI){k j:Nat}(x:OI)(h:j≠k):MG σ k x j=σ j:=by
 have:Nat.beq j k=false:=by
  cases hb:Nat.beq j k with
  |false=>rfl
  |true=>exact absurd (o7 hb) h
 simp [MG,this]
structure NE where
 slot:Nat
 ty:(Nat→OI)→Ty
 src:Option Nat
def acI(G:nm)(ts:List (OI→Ty))(n:NE):Prop:=
 match n.src with
 |some j=> ∀σ,(ts[j]?).map (fun f=>f (σ j))=some (n.ty σ)
 |none=> ∀σ,dn G n.slot=some (n.ty σ)
def PU(G:nm)(ts:List (OI→Ty)):List NE→Prop
 |[]=>True
 |n::l=>acI G ts n∧PU G ts l
theorem PU.mem{ts:List (OI→Ty)}: ∀{l:List NE},PU G ts l→ ∀n∈l,acI G ts n
 |_::_,⟨h,_⟩,_,.head _=>h
 |_::_,⟨_,h⟩,_,.tail _ hm=>PU.mem h _ hm
def sr(E:En)(ops:Array Oper)(O:List OE)(need:nm)(o:Oper)(post:OI→List OE)(t:OI→Ty):Prop:=
 ∀a w S,jL w S→cL E.base E.B w S O→cU E.N S a need→E.base≤w.heap.size→
  if Region.wanted o (yielded ops a.tmps)then KR E.P o a w (fun a' w' => ∃v S' x,a' =a.put o.dst v∧gn (AE O) w S w' S' ∧jL w' S' ∧cL E.base E.B w' S' (post x)∧(t x).p S' v)
  else∃x,cL E.base E.B w S (post x)∧(t x).p S undef
theorem eC{need:nm}{t:OI→Ty}(hg:o.guard=none)(h:EffOK E O need o post t):sr E ops O need o post t:=fun a w S hs ho hf hb=>by
 have:Region.wanted o (yielded ops a.tmps)=true:=by unfold Region.wanted;rw [hg]
 rw [this,aY rfl]
 exact h a w S hs ho hf hb
def gR(es:List Bool)(i:Nat):Nat:=(es.take i).countP (· ==true)
def Oc(L:List Oper)(es:List Bool):Bool:=(List.range es.length).all fun i=>(List.range i).all fun j=> !((es[i]?).getD false&&(es[j]?).getD false)||nZ L L.length i j
structure DJE(E:En)(G:nm)(l:List Oper)(ts:List (OI→Ty))(Om:Nat→(Nat→OI)→List OE)(es:List Bool)(done:Array Bool)(a:Act)(w:World)(S:SH)(σ:Nat→OI)(c:Nat):Prop where
 ext:gn E.B E.w0 E.S0 w S
 sat:jL w S
 own:cL E.base E.B w S (Om c σ)
 size:a.tmps.size=E.N.n
 defers:a.defers=E.N.ds
 dsz:done.size=l.length
 down: ∀j o,l[j]? =some o→done.getD j false=true→ ∀e∈o.after,Region.binds .any e=true→done.getD e.on false=true
 old: ∀k t,dn G k=some t→(∀j o,l[j]? =some o→done.getD j false=true→o.dst≠some k)→t.p S (a.tmps.getD k undef)
 new: ∀j o d f,l[j]? =some o→done.getD j false=true→o.dst=some d→ts[j]? =some f→(f (σ j)).p S (a.tmps.getD d undef)
 chain: ∀k,es[k]? =some true→(done.getD k false=true↔gR es k<c)
variable{es:List Bool}
theorem F9: ∀{i j:Nat},i<j→es[i]? =some true→gR es i<gR es j:=by
 induction es with
 |nil=>intro i j _ h;simp at h
 |cons e es ih=>
  intro i j hij h
  cases j with
  |zero=>omega
  |succ j=>
   cases i with
   |zero=>simp at h;subst h;simp [gR]
   |succ i=>
    have:=ih (i:=i) (j:=j) (by omega) (by simpa using h)
    cases e<;>simp [gR]at this ⊢ <;>omega
theorem w8: ∀{c k:Nat},c<gR es k→ ∃i,i<k∧es[i]? =some true∧gR es i=c:=by
 induction es with
 |nil=>intro c k h;simp [gR]at h
 |cons e es ih=>
  intro c k h
  cases k with
  |zero=>simp [gR]at h
  |succ k=>
   cases e with
   |false=>
    obtain⟨i,h1,h2,h3⟩:=ih (c:=c) (k:=k) (by simpa [gR] using h)
    exact⟨i+1,by omega,by simpa using h2,by simpa [gR] using h3⟩
   |true=>
    cases c with
    |zero=>exact⟨0,by omega,rfl,by simp [gR]⟩
    |succ c=>
     obtain⟨i,h1,h2,h3⟩:=ih (c:=c) (k:=k) (by simp [gR]at h ⊢;omega)
     exact⟨i+1,by omega,by simpa using h2,by simp [gR]at h3 ⊢;omega⟩
section
variable{ts:List (OI→Ty)}{Om:Nat→(Nat→OI)→List OE}
theorem DJE.step{σ:Nat→OI}{c c' :Nat}(h:DJE E G L ts Om es done a w S σ c){f:OI→Ty}{v:Value}{x:OI}{C:Nat→Prop}(hi:L[i]? =some o)(hd:o.dst=some d)(hdN:d<E.N.n)(hs2: ∀j p,L[j]? =some p→done.getD j false=true→p.dst=some d→i=j)(hwait: ∀e∈o.after,Region.binds .any e=true→done.getD e.on false=true)(ht:ts[i]? =some f)(hun:done.getD i true=false)(hext:gn C w S w' S')(hC: ∀b,C b→E.base≤b∨E.B b)(hsat:jL w' S')(hown:cL E.base E.B w' S' (Om c' (MG σ i x)))(hv:(f x).p S' v)(hch: ∀k,es[k]? =some true→((done.setIfInBounds i true).getD k false=true↔gR es k<c')):
  DJE E G L ts Om es (done.setIfInBounds i true) (a.put o.dst v) w' S' (MG σ i x) c' :=by
 have hda:d<a.tmps.size:=by rw [h.size];exact hdN
 have hlt:i<done.size:=by rw [h.dsz];exact(ke.1 hi).1
 have hset: ∀j,(done.setIfInBounds i true).getD j false=true→j=i∨done.getD j false=true:=fun j hj=>by
  by_cases hij:i=j
  ·exact .inl hij.symm
  ·rw [vp false hij]at hj;exact .inr hj
 have hseti:(done.setIfInBounds i true).getD i false=true:=by simp [hlt]
 have hun' :done.getD i false=false:=by simp [hlt]at hun ⊢;exact hun
 refine⟨h.ext.step hext hC,hsat,hown,?_,?_,by simp [h.dsz],fun j p hj hdone e he hb=>?_,fun k u hk hno=>?_,fun j p d' u hj hdone hd' hu=>?_,hch⟩
 ·rw [hd];simp [Act.put,h.size]
 ·rw [hd];exact h.defers
 ·rcases hset j hdone with rfl|hj'
  ·rw [hi]at hj
   have:o=p:=by simpa using hj
   subst this
   exact wj (hwait e he hb)
  ·exact wj (h.down j p hj hj' e he hb)
 ·have hne:d≠k:=fun e=>hno i o hi hseti (by rw [hd,e])
  rw [hd,rG hda,aK hne]
  exact u.mono hext.keep (h.old k u hk fun j p hj hdone=>hno j p hj (wj hdone))
 ·rw [hd,rG hda]
  by_cases hij:j=i
  ·subst hij
   rw [hi]at hj
   have:o=p:=by simpa using hj
   subst this
   rw [hd]at hd'
   have:d=d' :=by simpa using hd'
   subst this
   rw [aY rfl]
   rw [ht]at hu
   have:f=u:=by simpa using hu
   subst this
   rw [Rw]
   exact hv
  ·have hj' :=(hset j hdone).resolve_left hij
   have hne:d≠d' :=fun e=>by
    subst e
    have:=hs2 j p hj hj' hd'
    exact hij this.symm
   rw [aK hne,EJ σ x hij]
   exact Ty.mono _ hext.keep (h.new j p d' u hj hj' hd' hu)
end

section
variable{ty:TypeId}
theorem tg(ht:E.P.underlying t=some (.slice e))(hx:aJ E.N G x (tV (.slice none 0 0))):bR E O G ⟨dst,.call ⟨.builtin .len,#[x],#[t]⟩,ty,pos,after,g⟩ (tD (rI .i64) (0:Int)):=
 .of_pure fun a w S _ _ hf=>by
  have h1:a.eval x= .slice none 0 0:=hx S a hf
  refine⟨.int .i64 0,?_,di.2 rfl⟩
  simp [execOp,resolve,invoke,builtin,Builtin.len_,lY ht,h1,goInt]
theorem th(ht:E.P.underlying t=some (.slice e))(hx:aJ E.N G x (tV (.slice none 0 0))):bR E O G ⟨dst,.call ⟨.builtin .cap,#[x],#[t]⟩,ty,pos,after,g⟩ (tD (rI .i64) (0:Int)):=
 .of_pure fun a w S _ _ hf=>by
  have h1:a.eval x= .slice none 0 0:=hx S a hf
  refine⟨.int .i64 0,?_,di.2 rfl⟩
  simp [execOp,resolve,invoke,builtin,Builtin.cap_,lY ht,h1,goInt]
theorem yo{hi:Operand}(ht:E.P.underlying t=some (.slice T))(ti:TI E.P T sz bytes agg z)(hx:aJ E.N G x (tV (.slice none 0 0)))(hhi:aJ E.N G hi (tD (rI k) (0:Int))):
  bR E O G ⟨dst,.slice t x none (some hi) none,ty,pos,after,g⟩ (tV (.slice none 0 0)):=
 .of_pure fun a w S _ _ hf=>by
  have h1:a.eval x= .slice none 0 0:=hx S a hf
  have h6:=di.1 (hhi S a hf)
  refine⟨.slice none 0 0,?_,rfl⟩
  have hb:=md (P:=E.P) (w:=w) (k:=k) (n:=(0:Int)) (y:=0) (code:= .sliceAcap) (by omega) (by omega)
  simp [execOp,Instr.sliceAt,h1,h6,Instr.slice,lY ht,Instr.sliceBounds,hb,md (k:=k) (n:=(0:Int)) (y:=0) (by omega) (by omega),ti.sizeOf]
end

def oe{α:Type}(n:Int)(z:α):Option (List α):=if 0≤n∧n≤68719476736 then some (List.replicate n.toNat z)else none
theorem xU{n:Int}{z:α}(h:oe n z=some zs): ∃m:Nat,n=m∧m≤68719476736∧zs=List.replicate m z:=by
 unfold oe at h
 split at h
 ·rename_i hc;exact⟨n.toNat,by omega,by omega,by simpa using h.symm⟩
 ·cases h
theorem vJ{α:Type}{r:Rp α}{x:α}{z:List Value}(hx: ∀S,r.rc S z x)(S:SH): ∀n:Nat,vf r S (List.replicate n z).flatten (List.replicate n x)
 |0=>rfl
 |n+1=>⟨z,_,by rw [List.replicate_succ,List.flatten_cons],hx S,vJ hx S n⟩
theorem Ff(z:List Value):(List.range z.length).map (fun i=>z[i%z.length]?.getD default)=z:=by
 apply JT
 intro k
 rcases nW k z.length with h|h
 ·rw [C9,List.getElem?_range h]
  simp [C8 h,h]
 ·rw [Ez (by simpa using h),Ez h]
theorem oN(z:List Value)(n:Nat):(Builtin.zeroCells z.toArray n).toList=(List.replicate n z).flatten:=by
 unfold Builtin.zeroCells
 simp
 induction n with
 |zero=>simp
 |succ n ih=>
  rw [List.replicate_succ,List.flatten_cons,←ih,Nat.succ_mul,Nat.add_comm,List.range_add,List.map_append,Ff,List.map_map]
  congr 1
  apply G8
  intro i _
  simp
theorem vP(z:List Value)(n sz:Nat)(h:z.length=sz):(madeCells z.toArray (n*sz)).toList=(List.replicate n z).flatten:=by
 subst h
 have:=oN z n
 unfold Builtin.zeroCells at this
 unfold madeCells
 simpa using this
section
variable{ty:TypeId}
theorem flat_len(h:z.length=sz)(n:Nat):(List.replicate n z).flatten.length=n*sz:=by
 simp [h]
theorem Tb{x:α}{n:Int}{y y' :Operand}(ti:TI E.P T sz bytes agg z)(hsz:r.sz=sz)(hz:Nat.beq z.length sz=true)(h128:Nat.ble bytes 2048=true)(ht:E.P.underlying t=some (.slice T))(hx: ∀S,r.rc S z x)(hy:aJ E.N G y (tD (rI k) n))(hy' :aJ E.N G y' (tD (rI k') n))(h:oe n x=some zs):
  EffOK E O G ⟨some d,.makeSlice t y y',ty,pos,after,g⟩ (fun i=>fE r T (i.h 0).1 (i.h 0).2 zs::O) (fun i=>tV (aT (i.h 0).1 (i.h 0).2 zs.length)):=fun a w S hs ho hf hb=>by
 subst hsz
 obtain⟨i,zv,hi,h1,h2,h3,h4⟩:=ti.get
 obtain⟨m,rfl,hm,rfl⟩:=xU h
 have hyv:=di.1 (hy S a hf)
 have hyv' :=di.1 (hy' S a hf)
 have hz2:z.length=r.sz:=o7 hz
 have h128' :=pw h128
 have hbytes:(i.bytes:Int)*(m:Int)≤281474976710656:=by
  have:i.bytes*m≤2048*68719476736:=xu (by omega) hm
  have h5:((i.bytes*m:Nat):Int)≤281474976710656:=by omega
  rwa [xP]at h5
 have hr:=run_make (P:=E.P) w t T i zv ht hi h3 k k' (m:Int) (m:Int) (by omega) (Int.le_refl _) hbytes (by omega)
 rw [A2,h1,h4]at hr
 obtain⟨he,hs',hno⟩:=gk (w:=w) (.cells (madeCells z.toArray (m*r.sz)) T (0,0)) hs
 have hrun:(execOp a.eval ⟨some d,.makeSlice t y y',ty,pos,after,g⟩).run E.P w= .ok (.value (.slice (some ⟨w.heap.size,0,none⟩) m m)) (w.alloc (.cells (madeCells z.toArray (m*r.sz)) T (0,0))):=by
  simp [execOp,hyv,hyv',hr]
 refine⟨fun c h=>(by cases h),?_⟩
 rw [hrun]
 have hfl:=flat_len hz2 m
 refine⟨_,S,oi (some w.heap.size) m,rfl,he.more fun _ hb=>hb.elim,hs',ql ho he (e:=fE r T (some w.heap.size) m (List.replicate m x)) ⟨(List.replicate m z).flatten,⟨_,xN w _,by simp,by simp only [maxLen];omega,by rw [size_madeCells],?_⟩,vJ hx S m,fun b hb=>by rw [←p5 hb];exact hno⟩ (fun b hb=>A5 (p5 hb)) hb,?_⟩
 ·rw [vP z m r.sz hz2,Dd]
  exact sK (by omega)
 ·show _=aT _ _ _
  rw [Dd];rfl
theorem yE{x:α}{n:Int}{s y:Operand}{kn:IntKind}(ti:TI E.P T sz bytes agg z)(hsz:r.sz=sz)(hz:Nat.beq z.length sz=true)(h0:Nat.blt 0 sz=true)(h128:Nat.ble bytes 2048=true)(ht:E.P.underlying t=some (.slice T))(ht' :E.P.underlying t' =some (.int kn))(hx: ∀S,r.rc S z x)(hs' :aJ E.N G s (tV (.slice none 0 0)))(hy:aJ E.N G y (tD (rI k) n))(hn:0<n)(h:oe n x=some zs):
  EffOK E O G ⟨some d,.call ⟨.builtin .append,#[s,y],#[t,t']⟩,ty,pos,after,g⟩ (fun i=>fE r T (i.h 0).1 (i.h 0).2 zs::O) (fun i=>tV (aT (i.h 0).1 (i.h 0).2 zs.length)):=fun a w S hs ho hf hb=>by
 subst hsz
 obtain⟨i,zv,hi,h1,h2,h3,h4⟩:=ti.get
 obtain⟨m,rfl,hm,rfl⟩:=xU h
 have hsv:a.eval s= .slice none 0 0:=hs' S a hf
 have hyv:=di.1 (hy S a hf)
 have hz2:z.length=r.sz:=o7 hz
 have h128' :=pw h128
 have h0' :0<r.sz:=by simpa [xq] using h0
 have hbytes:m*i.bytes≤281474976710656:=by
  have:m*i.bytes≤68719476736*2048:=xu hm (by omega)
  omega
 have hr:=Lib.run_append_nil_zeros (P:=E.P) w t t' ty T i zv k kn ht ht' hi h3 m (by omega) (by omega) (by omega) hbytes
 have hge:=grownCap_ge w m 0 T
 have hle:=grownCap_le_maxLen w m 0 T (by simp only [maxLen];omega)
 generalize grownCap w m 0 T=cp at hr hge hle
 obtain⟨C,hC⟩: ∃C,Builtin.zeroCells zv.cells m++Builtin.zeroCells zv.cells (cp-m)=C:=⟨_,rfl⟩
 rw [hC]at hr
 obtain⟨he0,hs0⟩:=yQ (w:=w) hs
 obtain⟨he,hs2,hno⟩:=gk (w:=w.drew) (.cells C T (0,0)) hs0
 have hx2:gn p9 w S (w.drew.alloc (.cells C T (0,0))) S:=he0.trans he
 have hrun:(execOp a.eval ⟨some d,.call ⟨.builtin .append,#[s,y],#[t,t']⟩,ty,pos,after,g⟩).run E.P w= .ok (.value (.slice (some ⟨w.heap.size,0,none⟩) m cp)) (w.drew.alloc (.cells C T (0,0))):=by
  simp [execOp,resolve,invoke,builtin,hsv,hyv,hr]
 refine⟨fun c h=>(by cases h),?_⟩
 rw [hrun]
 have hfl:=flat_len hz2 m
 have hC1:C.toList=(List.replicate m z).flatten++(List.replicate (cp-m) z).flatten:=by
  rw [←hC,Array.toList_append,h4,oN,oN]
 refine⟨_,S,oi (some w.heap.size) cp,rfl,hx2.more fun _ hb=>hb.elim,hs2,ql ho hx2 (e:=fE r T (some w.heap.size) cp (List.replicate m x)) ⟨(List.replicate m z).flatten,⟨C,xN w.drew _,by simpa using hge,hle,?_,?_⟩,vJ hx S m,fun b hb=>by rw [←p5 hb];exact hno⟩ (fun b hb=>A5 (p5 hb)) hb,?_⟩
 ·have:C.toList.length=cp*r.sz:=by
   rw [hC1,jg,hfl,flat_len hz2,←u8];congr 1;omega
  simpa using this
 ·rw [hC1,Dd,←hfl,List.take_left]
 ·show _=aT _ _ _
  rw [Dd];rfl

theorem HX{x:α}{y:Operand}(ti:TI E.P T sz bytes agg z)(hsz:r.sz=sz)(hz:Nat.beq z.length sz=true)(ht:E.P.underlying t=some (.slice T))(hx: ∀S,r.rc S z x)(hone:z.all (·.oneCell')=true)(hs:dE xs lo (xs.length:Int)=some ys)(hy:aJ E.N G y (tV (o4 sz l cap lo.toNat ys.length)))(hzs:xs.take lo.toNat++List.replicate ys.length x=zs)(k:RG E ops Q rest (fE r T l cap zs::O) G):
  RG E ops Q (⟨none,.call ⟨.builtin .clear,#[y],#[t]⟩,ty,pos,after,none⟩::rest) (fE r T l cap xs::O) G:= .of rfl fun a w S st=>by
 subst hsz
 subst hzs
 obtain⟨i,zv,hi,h1,h2,h3,h4⟩:=ti.get
 have hyv:a.eval y=o4 r.sz l cap lo.toNat ys.length:=hy S a st.facts
 have hz2:z.length=r.sz:=o7 hz
 obtain⟨lo',m,rfl,hm,h5,h6,rfl⟩:=hZ hs
 have hm' :m=xs.length:=by omega
 subst hm'
 rw [xQ]at hyv k
 rw [A2]at hyv k
 by_cases hnil:xs.drop lo' =[]
 ·have hlo:xs.length≤lo' :=Ib.1 hnil
  rw [hnil]at hyv k
  have e1:xs.take lo' ++List.replicate ([]:List α).length x=xs:=by simp [sK hlo]
  rw [e1]at k
  have hrun:(execOp a.eval ⟨none,.call ⟨.builtin .clear,#[y],#[t]⟩,ty,pos,after,none⟩).run E.P w= .ok (.value (.tuple #[])) w:=by
   cases l<;>simp [execOp,resolve,invoke,builtin,Builtin.clear_,lY ht,hyv,o4]
  refine⟨fun c h=>(by cases h),?_⟩
  rw [hrun]
  exact k _ _ S st
 ·obtain⟨⟨cells,hraw,hrc,hno⟩,hbase⟩:=st.own.1
  have hlt:lo' <xs.length:=by
   rcases nW lo' xs.length with h|h
   ·exact h
   ·exact absurd (DN h) hnil
  cases l with
  |none=>have:=hraw.1;omega
  |some b=>
   obtain⟨cur,g1,g2,g3,g4,g5⟩:=hraw
   have hno' :S b=none:=hno b rfl
   have hne: ¬(cap=lo'):=by omega
   have hld:(xs.drop lo').length=xs.length-lo' :=by simp
   have hfl:=flat_len hz2 (xs.length-lo')
   have hones: ∀u∈(List.replicate (xs.length-lo') z).flatten,u.oneCell' =true:=by
    intro u hu
    obtain⟨q,hq,hu⟩:=List.mem_flatten.1 hu
    rw [(List.mem_replicate.1 hq).2]at hu
    exact jW.1 hone u hu
   have hmul:xs.length*r.sz≤cur.size:=by rw [g4];exact Cg _ g2
   have hfit:lo' *r.sz+(xs.length-lo')*r.sz=xs.length*r.sz:=by rw [←u8];congr 1;omega
   have hst:=run_storeCells_at E.P b (lo' *r.sz) T (List.replicate (xs.length-lo') z).flatten 0 cur w g1 (by omega) hones
   simp only [xD]at hst
   have hrun:(execOp a.eval ⟨none,.call ⟨.builtin .clear,#[y],#[t]⟩,ty,pos,after,none⟩).run E.P w= .ok (.value (.tuple #[])) (w.setRow b (cur.toList.take (lo' *r.sz)++(List.replicate (xs.length-lo') z).flatten++cur.toList.drop (lo' *r.sz+(List.replicate (xs.length-lo') z).flatten.length)).toArray):=by
    have e1: ∃q,xs.length-lo' =q+1:=⟨xs.length-lo' -1,by omega⟩
    obtain⟨q,hq⟩:=e1
    have e2:a.eval y= .slice (some ⟨b,lo' *r.sz,none⟩) (q+1) (cap-lo'):=by rw [hyv,hld,hq];simp [o4,hne]
    rw [hq]at hst ⊢
    simp [execOp,resolve,invoke,builtin,Builtin.clear_,lY ht,e2,zeroValue,typeInfo,hi,h3,h4,oN,hst]
   refine⟨fun c h=>(by cases h),?_⟩
   rw [hrun]
   have hset:=setRow_heap w b cur (cur.toList.take (lo' *r.sz)++(List.replicate (xs.length-lo') z).flatten++cur.toList.drop (lo' *r.sz+(List.replicate (xs.length-lo') z).flatten.length)).toArray T _ g1
   have hl2:(xs.take lo' ++List.replicate (xs.drop lo').length x).length=xs.length:=by simp;omega
   have hsp:vf r S (cells.take (lo' *r.sz)) (xs.take lo'):=by
    have e:xs=xs.take lo' ++xs.drop lo' :=(wn _ _).symm
    rw [e]at hrc
    have:=(qZ hrc).1
    rwa [show(xs.take lo').length=lo' from by simp;omega]at this
   have hcl:((cur.toList.take (lo' *r.sz)++(List.replicate (xs.length-lo') z).flatten++cur.toList.drop (lo' *r.sz+(List.replicate (xs.length-lo') z).flatten.length)).toArray).toList.take ((xs.take lo' ++List.replicate (xs.drop lo').length x).length*r.sz)=cells.take (lo' *r.sz)++(List.replicate (xs.length-lo') z).flatten:=by
    rw [hl2,←g5,Ce,xO (Cg _ (by omega))]
    have hlen1:(cur.toList.take (lo' *r.sz)++(List.replicate (xs.length-lo') z).flatten).length=xs.length*r.sz:=by
     rw [jg,hfl,zO,Ey,xO (by omega)];exact hfit
    rw [←hlen1,List.take_left]
   obtain⟨q1,q2,q3⟩:=q5 (O:=O) st.sat (fE r T (some b) cap xs) (fE r T (some b) cap (xs.take lo' ++List.replicate (xs.drop lo').length x)) st.own (fun k=>⟨fun h=>(p5 h).symm,fun h=>by rw [h];rfl⟩) (fun k=>⟨fun h=>(p5 h).symm,fun h=>by rw [h];rfl⟩)
    (w' :=w.setRow b (cur.toList.take (lo' *r.sz)++(List.replicate (xs.length-lo') z).flatten++cur.toList.drop (lo' *r.sz+(List.replicate (xs.length-lo') z).flatten.length)).toArray) ⟨rfl,rfl,rfl,by simp [World.setRow],dh _⟩ (fun k hk=>setRow_other w b k _ hk)
    ⟨cells.take (lo' *r.sz)++(List.replicate (xs.length-lo') z).flatten,⟨_,hset,by rw [hl2];exact g2,g3,by simp only [G6,jg,zO,Ex,Ey];omega,hcl⟩,by rw [hld];exact wH hsp (vJ hx S _),fun k hk=>by rw [←p5 hk];exact hno'⟩ hno'
   ·exact k _ _ S ⟨st.ext.step q1 (fun c hc=>hbase c (by rw [hc];rfl)),q2,q3,st.facts⟩
end

def vg{α:Type}(r:Rp α)(n:Nat):Rp (List α) where
 sz:=n*r.sz
 agg:=true
 rc:=fun S cs xs=>xs.length=n∧vf r S cs xs
 mono:=fun h ⟨h1,h2⟩=>⟨h1,tY h h2⟩
 len:=fun⟨h1,h2⟩=>by rw [pq h2,h1]
 one:=fun⟨_,h2⟩=>D7 h2
 sc:=fun h=>by cases h
section
section
variable{ty:TypeId}
theorem GK{i:Int}(ht:E.P.underlying t=some (.array n e))(ti:TI E.P e sz bytes agg z)(hsz:r.sz=sz)(hx:aJ E.N G x (bM (vg r n) xs))(hi:aJ E.N G ix (tD (rI k) i))(hy:cN xs i=some y):
  bR E O G ⟨dst,.indexAddr t x ix,ty,pos,after,g⟩ (bM r y):=
 .of_pure fun a w S _ _ hf=>by
  subst hsz
  obtain⟨b,off,c,T,fr,h1,h2,h3,h4⟩:=hx S a hf
  have h5:a.eval ix= .int k i:=di.1 (hi S a hf)
  obtain⟨h0,hy'⟩:=nv hy
  have hlt:i.toNat<xs.length:=(ke.1 hy').1
  have hc:0≤i∧i<(n:Int):=⟨h0,by omega⟩
  refine⟨.pointer (some ⟨b,off+i.toNat*r.sz,none⟩),?_,b,_,c,T,fr,rfl,h2,?_⟩
  ·simp [execOp,h1,h5,Instr.indexAt,asIntOf,lY ht,Instr.sureAddr,hc,ti.sizeOf,j6]
  ·have h6:=D8 h4 hy'
   rw [A6,Ce,qL]at h6
   have hmul:i.toNat*r.sz+r.sz≤n*r.sz:=by rw [←Nat.succ_mul];exact Cg _ (by omega)
   have hmin:min r.sz ((vg r n).sz-i.toNat*r.sz)=r.sz:=by
    show min r.sz (n*r.sz-i.toNat*r.sz)=r.sz
    omega
   rwa [hmin]at h6
theorem GI{i:Int}(ht:E.P.underlying t=some (.array n e))(ti:TI E.P e sz bytes agg z)(hm:bx (vg r n) T b xs∈O)(hx:aJ E.N G x (tV (aO b 0)))(hi:aJ E.N G ix (tD (rI k) i))(hy:cN xs i=some y):
  bR E O G ⟨dst,.indexAddr t x ix,ty,pos,after,g⟩ (tV (aO b (i.toNat*sz))):=
 .of_pure fun a w S _ ho hf=>by
  have h1:a.eval x=aO b 0:=hx S a hf
  have h5:a.eval ix= .int k i:=di.1 (hi S a hf)
  obtain⟨⟨_,c,_,h4,_⟩,_⟩:=ho.mem _ hm
  obtain⟨h0,hy'⟩:=nv hy
  have hlt:i.toNat<xs.length:=(ke.1 hy').1
  have hc:0≤i∧i<(n:Int):=⟨h0,by omega⟩
  refine⟨_,?_,rfl⟩
  simp [execOp,h1,h5,aO,Instr.indexAt,asIntOf,lY ht,Instr.sureAddr,hc,ti.sizeOf,j6]
end
end
theorem z8{α:Type}{r:Rp α}{c:Value}{x:α}(h: ∀S,r.rc S [c] x)(S:SH): ∀n,vf r S (List.replicate n c) (List.replicate n x)
 |0=>rfl
 |n+1=>⟨[c],_,rfl,h S,z8 h S n⟩
theorem TG{c:Value}{x:α}(n:Nat)(h: ∀S,r.rc S [c] x): ∀S,(vg r n).rc S (List.replicate n c) (List.replicate n x):=fun S=>⟨Dd,z8 h S n⟩
def YS(n:Nat):Option Unit:=if n≤68719476736 then some ()else none
def Xv(n:Int):Option Unit:=if 0<n then some ()else none
theorem FK{n:Int}{u:Unit}(h:Xv n=some u):0<n:=by
 unfold Xv at h
 split at h
 ·assumption
 ·cases h
theorem Gr{e:Exit}(mm:Bool)(r:Rp α)(T:TypeId)(h:AT E Q e (mB mm r T none 0 []::O) G):AT E Q e O G:=fun a w S st=>h a w S (st.fresh mm r T)
theorem zm{x:α}(h:dE xs lo (xs.length:Int)=some ys)(hz:xs.take lo.toNat++List.replicate ys.length x=zs):zs.length=xs.length:=by
 obtain⟨l,m,rfl,hm,h1,h2,rfl⟩:=hZ h
 have hm' :m=xs.length:=by omega
 subst hm'
 rw [←hz]
 simp
 omega

def tC(n:FuncId)(cts:List Ty):Ty where
 p:=fun S v=> ∃cap:List Value,v= .func (.func n) #[] cap.toArray∧xA S cts cap
 mono:=fun h ⟨cap,e,k⟩=>⟨cap,e,xA.mono h k⟩
section
section
variable{ty:TypeId}
theorem KT{fid:FuncId}{caps:List Operand}(hcap:jV E.N G caps cts):bR E O G ⟨dst,.makeFunc (.func fid) #[] caps.toArray,ty,pos,after,g⟩ (tC fid cts):=
 .of_pure fun a w S _ _ hf=>⟨.func (.func fid) #[] (caps.map a.eval).toArray,by simp [execOp,Instr.makeFunc],_,rfl,hcap.tys hf⟩
end
theorem CL{n:FuncId}{ty:TypeId}{fo:Operand}{xs:List Operand}(O1 Or:List OE){t:OI→Ty}{O2:OI→List OE}(hO:O=O1++Or)(hc:ak E.P n=true)(hs:dd E.P n (ts++cts) O1 t O2)(hf:aJ E.N G fo (tC n cts))(hx:jV E.N G xs ts)(hpost: ∀i,O2 i++Or=post i):
  EffOK E O G ⟨some d,.call ⟨.value fo,xs.toArray,ats⟩,ty,pos,after,g⟩ post t:=fun a w S hsat ho hF hb=>by
 subst hO
 obtain rfl:(fun i=>O2 i++Or)=post:=funext hpost
 obtain⟨cap,e,hcap⟩:=hf S a hF
 have hr:(execOp a.eval ⟨some d,.call ⟨.value fo,xs.toArray,ats⟩,ty,pos,after,g⟩).run E.P w= .ok (.enter n ((xs.map a.eval).toArray++cap.toArray)) w:=by
  simp [execOp,resolve,e,Deferred.ofValue,invoke,ei hc]
 refine⟨fun c h=>(by cases h),?_⟩
 rw [hr]
 have e2:(xs.map a.eval).toArray++cap.toArray=((xs.map a.eval)++cap).toArray:=by simp
 rw [e2]
 exact(hs w S _ hsat ((hx.tys hF).append hcap) (nU ho).1.weak).mono fun en w' ⟨i,v,S',he,hv,h1,h2,h3,h4⟩=>⟨_,he,v,S',i,rfl,h1.more fun b ⟨f,hf,hb⟩=>⟨f,Ha _ hf,hb⟩,h2,cL.turn ho hb h1 h3 h4,hv⟩
end

def yx{α:Type}(xs:List α)(lo:Int)(n:Nat)(i:Int):Option α:=if 0≤i∧i<(n:Int)then cN xs (lo+i)else none
theorem rd{i:Int}(h:yx xs lo n i=some y):0≤i∧i<(n:Int)∧cN xs (lo+i)=some y:=by
 unfold yx at h
 split at h
 ·rename_i hc;exact⟨hc.1,hc.2,h⟩
 ·cases h
theorem ta(h:dE xs lo hi=some ys):0≤lo:=by
 obtain⟨l,m,rfl,_,_,_,_⟩:=hZ h
 omega
section
theorem nl(hm:mB mm r T l cap xs∈O)(hs:dE xs lo hi=some ys)(h:(l=none→ys.length=0)∧ys.length≤maxLen→RG E ops Q rest O G):RG E ops Q rest O G:=fun a w S st=>by
 refine h ?_ a w S st
 obtain⟨cells,h1,_⟩:=(st.own.mem _ hm).1
 obtain⟨l',m,_,_,_,h8,rfl⟩:=hZ hs
 have hlen:((xs.take m).drop l').length≤xs.length:=by simp;omega
 cases l with
 |none=>have:=h1.1;exact⟨fun _=>by omega,by omega⟩
 |some b=>obtain⟨cur,_,g2,g3,_⟩:=h1;exact⟨fun h=>(by cases h),by omega⟩
section
variable{ty:TypeId}
theorem Ea{lo:Nat}(ht:E.P.underlying t=some (.slice e))(hv:l=none→n=0)(hx:aJ E.N G x (tV (o4 sz l cap lo n))):
  bR E O G ⟨dst,.call ⟨.builtin .len,#[x],#[t]⟩,ty,pos,after,g⟩ (tD (rI .i64) (n:Int)):=
 .of_pure fun a w S _ ho hf=>by
  have h1:a.eval x=o4 sz l cap lo n:=hx S a hf
  obtain⟨ad,c,h3⟩: ∃ad c,o4 sz l cap lo n= .slice ad n c:=by
   cases l with
   |none=>rw [hv rfl];exact⟨none,0,rfl⟩
   |some b=>exact⟨_,_,rfl⟩
  refine⟨.int .i64 n,?_,di.2 rfl⟩
  simp [execOp,resolve,invoke,builtin,Builtin.len_,lY ht,h1,h3,goInt]
theorem nK{i:Int}(ht:E.P.underlying t=some (.slice e))(ti:TI E.P e sz bytes agg z)(hsz:r.sz=sz)(hm:mB mm r U l cap xs∈O)(hl0:0≤lo)(hx:aJ E.N G x (tV (o4 sz l cap lo.toNat n)))(hi' :aJ E.N G ix (tD (rI k) i))(hy:yx xs lo n i=some y):
  bR E O G ⟨dst,.indexAddr t x ix,ty,pos,after,g⟩ (tV (qa l ((lo+i).toNat*sz+0))):=
 .of_pure fun a w S _ ho hf=>by
  subst hsz
  have h1:a.eval x=o4 r.sz l cap lo.toNat n:=hx S a hf
  have h3:a.eval ix= .int k i:=di.1 (hi' S a hf)
  obtain⟨hi0,hin,hxi⟩:=rd hy
  obtain⟨_,hx'⟩:=nv hxi
  obtain⟨b,cur,rfl,_,hle,_⟩:=vK (ho.mem _ hm).1 hx'
  have hlt2:(lo+i).toNat<xs.length:=(ke.1 hx').1
  have hne: ¬(cap=lo.toNat):=by omega
  refine⟨_,?_,rfl⟩
  have hc:0≤i∧i<(n:Int):=⟨hi0,hin⟩
  have e1:(lo+i).toNat=lo.toNat+i.toNat:=by omega
  simp [execOp,h1,h3,o4,hne,Instr.indexAt,asIntOf,lY ht,hc,ti.sizeOf,j6,qa,aO,e1,u8]
end
end

section
variable{ty:TypeId}{l:List Oper}
end

theorem og3 [Inhabited α]{c b:Bool}{x:Option α}{k:α→Option β}{d:Option β}{r:β}(h:c=true→(if b=true then x.bind k else d)=some r): ∃y,((c&&b)=true→x=some y∧k y=some r)∧(c=true→b=false→d=some r):=by
 cases c with
 |false=>exact⟨default,fun e=>(by cases e),fun e=>(by cases e)⟩
 |true=>
  obtain⟨y,h1,h2⟩:=og (h rfl)
  exact⟨y,fun e=>h1 e,fun _ e=>h2 e⟩
def pH{κ β:Type} [DecidableEq κ]:List (κ×β)→κ→Option β
 |[],_=>none
 |p::m,k=>if p.1=k then some p.2 else pH m k
def dw{κ β:Type} [DecidableEq κ]:List (κ×β)→κ→β→List (κ×β)
 |[],k,v=>[(k,v)]
 |p::m,k,v=>if p.1=k then(k,v)::m else p::dw m k v
def H3{κ:Type}(P:Program)(kt:TypeId)(kv:κ→Value):Prop:= ∃d,P.underlying kt=some d∧(∀a,MapKept.IsKey d (kv a))∧ ∀a b,kv a=kv b→a=b
def kvI(k:IntKind)(n:Int):Value:= .int k n
theorem d6{kt:TypeId}(h:P.underlying kt=some (.int k)):H3 P kt (kvI k):=⟨_,h,fun _=>rfl,fun a b e=>by injection e⟩
structure MV(β:Type) where
 p:World→SH→β→Option Nat×Nat→Value→Prop
 here: ∀{w S y o v},p w S y o v→ ∀j,o.1=some j→j<w.heap.size
 kept: ∀{C w w' S S' y o v},p w S y o v→gn C w S w' S' →(∀j,o.1=some j→ ¬C j)→p w' S' y o v
def xx{β:Type}(ty:β→Ty):MV β where
 p:=fun _ S y o v=>o.1=none∧(ty y).p S v
 here:=fun h j hj=>by rw [h.1]at hj;cases hj
 kept:=fun h k _=>⟨h.1,(ty _).mono k.keep h.2⟩
section
variable{κ:Type} [DecidableEq κ]{V:MV β}{kv:κ→Value}{d:TypeDesc}{k:κ}
def xy(V:MV β)(kv:κ→Value)(w:World)(S:SH)(h:Option κ):List MapEntry→List (Option Nat×Nat)→List (κ×β)→Prop
 |[],[],[]=>True
 |e::es,o::os,q::m=>e.key=kv q.1∧(if h=some q.1 then o.1=none else V.p w S q.2 o e.val)∧(∀o' ∈os,∀j,o.1=some j→o'.1≠some j)∧(∀p∈m,p.1≠q.1)∧xy V kv w S h es os m
 |_,_,_=>False
theorem HI{h:Option κ}: ∀{es:List MapEntry} {os:List (Option Nat×Nat)} {m:List (κ×β)},xy V kv w S h es os m→ ∀o∈os,∀j,o.1=some j→j<w.heap.size
 |[],[],[],_,o,ho,_,_=>by cases ho
 |e::es,o::os,q::m,⟨_,h2,_,_,h5⟩,o',ho,j,hj=>by
  rcases fx.1 ho with rfl|ho
  ·split at h2
   ·rw [h2]at hj;cases hj
   ·exact V.here h2 j hj
  ·exact HI h5 o' ho j hj
theorem BQ{C:Nat→Prop}(k:gn C w S w' S'){h:Option κ}: ∀{es:List MapEntry} {os:List (Option Nat×Nat)} {m:List (κ×β)},xy V kv w S h es os m→(∀o∈os,∀j,o.1=some j→ ¬C j)→xy V kv w' S' h es os m
 |[],[],[],_,_=>trivial
 |e::es,o::os,q::m,⟨h1,h2,h3,h4,h5⟩,hC=>⟨h1,by
  split
  ·rename_i hh;rw [aY hh]at h2;exact h2
  ·rename_i hh;rw [aK hh]at h2;exact V.kept h2 k (hC o (kZ ..)),h3,h4,BQ k h5 fun o' ho=>hC o' (kN _ ho)⟩
theorem DC{h:Option κ}: ∀{es:List MapEntry} {os:List (Option Nat×Nat)} {m:List (κ×β)},xy V kv w S h es os m→(∀p∈m,h≠some p.1)→xy V kv w S none es os m
 |[],[],[],_,_=>trivial
 |e::es,o::os,q::m,⟨h1,h2,h3,h4,h5⟩,hk=>⟨h1,by
  rw [aK (hk q (kZ ..))]at h2
  rw [aK (by simp)];exact h2,h3,h4,DC h5 fun p hp=>hk p (kN _ hp)⟩
theorem sQ(hd: ∀a,MapKept.IsKey d (kv a))(hi: ∀a b,kv a=kv b→a=b)(a b:κ):Instr.sameNow d (kv a) (kv b)=some (decide (a=b)):=by
 obtain⟨r,h1,h2⟩:=MapKept.sameNow_of_keys (hd a) (hd b)
 rw [h1]
 by_cases h:a=b
 ·subst h;rw [h2.2 rfl];simp
 ·rw [xG h]
  cases r with
  |false=>rfl
  |true=>exact absurd (hi _ _ (h2.1 rfl)) h
theorem uj(hd: ∀a,MapKept.IsKey d (kv a))(hi: ∀a b,kv a=kv b→a=b): ∀{es:List MapEntry} {os:List (Option Nat×Nat)} {m:List (κ×β)} (i:Nat),xy V kv w S none es os m→
  ∃os',(∀x∈os',x∈os∨x.1=none)∧xy V kv w S (some k) es os' m∧
   ((pH m k=none∧Instr.findNow d (kv k) es i=some none)∨ ∃(y:β) (o:Option Nat×Nat) (e:MapEntry) (j:Nat),pH m k=some y∧o∈os∧V.p w S y o e.val∧Instr.findNow d (kv k) es i=some (some (j,e.val))∧ ∀x∈os',∀q,o.1=some q→x.1≠some q)
 |[],[],[],i,_=>⟨[],fun x hx=>(by cases hx),trivial,.inl ⟨rfl,rfl⟩⟩
 |e::es,o::os,q::m,i,⟨h1,h2,h3,h4,h5⟩=>by
  rw [aK (by simp)]at h2
  by_cases hk:q.1=k
  ·refine⟨(none,0)::os,fun x hx=>?_,⟨h1,by rw [aY (by rw [hk])],fun _ _ _ hj=>(by cases hj),h4,?_⟩,.inr ⟨q.2,o,e,i,by unfold pH;rw [aY hk],kZ ..,h2,?_,fun x hx j hj=>?_⟩⟩
   ·rcases fx.1 hx with rfl|hx
    ·exact .inr rfl
    ·exact .inl (kN _ hx)
   ·have: ∀{es:List MapEntry} {os:List (Option Nat×Nat)} {m:List (κ×β)},xy V kv w S none es os m→(∀p∈m,p.1≠k)→xy V kv w S (some k) es os m:=by
     intro es
     induction es with
     |nil=>intro os m h _;cases os<;>cases m<;>first|trivial|exact h.elim
     |cons e es ih=>
      intro os m h hm
      cases os with
      |nil=>cases m<;>exact h.elim
      |cons o os=>
       cases m with
       |nil=>exact h.elim
       |cons q m=>
        obtain⟨g1,g2,g3,g4,g5⟩:=h
        rw [aK (by simp)]at g2
        exact⟨g1,by rw [aK (fun e=>hm q (kZ ..) (p5 e).symm)];exact g2,g3,g4,ih g5 fun p hp=>hm p (kN _ hp)⟩
    exact this h5 (fun p hp=>by rw [←hk];exact h4 p hp)
   ·unfold Instr.findNow
    rw [h1,sQ hd hi,hk,xF rfl]
   ·rcases fx.1 hx with rfl|hx
    ·exact fun e=>by cases e
    ·exact h3 x hx j hj
  ·obtain⟨os',g1,g2,g3⟩:=uj hd hi (i+1) h5
   refine⟨o::os',fun x hx=>?_,⟨h1,by rw [aK (fun e=>hk (p5 e).symm)];exact h2,fun o' ho' j hj=>?_,h4,g2⟩,?_⟩
   ·rcases fx.1 hx with rfl|hx
    ·exact .inl (kZ ..)
    ·exact(g1 x hx).imp (kN _) id
   ·rcases g1 o' ho' with h|h
    ·exact h3 o' h j hj
    ·rw [h];exact fun e=>by cases e
   ·have hf:Instr.findNow d (kv k) (e::es) i=Instr.findNow d (kv k) es (i+1):=by
     conv=>lhs;unfold Instr.findNow
     rw [h1,sQ hd hi,xG (fun e=>hk e.symm)]
    have hm:pH (q::m) k=pH m k:=by conv=>lhs;unfold pH;rw [aK hk]
    rw [hf,hm]
    refine g3.imp id fun⟨y,o1,e1,j,f1,f2,f3,f4,f5⟩=>⟨y,o1,e1,j,f1,kN _ f2,f3,f4,fun x hx q hq=>?_⟩
    rcases fx.1 hx with rfl|hx
    ·exact fun e=>h3 o1 f2 q e hq
    ·exact f5 x hx q hq
theorem Lc(x:α)(xs:List α)(j:Nat)(f:α→α):(x::xs).modify (j+1) f=x::xs.modify j f:=by simp [List.modify_succ_cons]
theorem HJ(hd: ∀a,MapKept.IsKey d (kv a))(hi: ∀a b,kv a=kv b→a=b){y:β}{o:Option Nat×Nat}{v:Value}{born:Nat}(hv:V.p w S y o v): ∀{es:List MapEntry} {os:List (Option Nat×Nat)} {m:List (κ×β)} (i:Nat),xy V kv w S (some k) es os m→(∀o' ∈os,∀j,o.1=some j→o'.1≠some j)→
    ∃os',(∀x∈os',x∈os∨x=o)∧
      ((∃(j:Nat) (e:MapEntry),Instr.findNow d (kv k) es i=some (some (i+j,e.val))∧es[j]? =some e∧e.key=kv k∧xy V kv w S none (es.modify j fun e=>{e with key:=kv k,val:=v}) os' (dw m k y))∨
        (Instr.findNow d (kv k) es i=some none∧xy V kv w S none (es++[⟨kv k,v,born⟩]) os' (dw m k y)))
  |[],[],[],i,_,_=>⟨[o],fun x hx=> .inr (A3.1 hx),.inr ⟨rfl,⟨rfl,by rw [aK (by simp)];exact hv,fun _ h=>(by cases h),fun _ h=>(by cases h),trivial⟩⟩⟩
  |e::es,o1::os,q::m,i,⟨h1,h2,h3,h4,h5⟩,ha=>by
    by_cases hk:q.1=k
    · refine⟨o::os,fun x hx=>?_,.inl ⟨0,e,?_,rfl,by rw [h1,hk],?_⟩⟩
      · rcases fx.1 hx with rfl|hx
        · exact .inr rfl
        · exact .inl (kN _ hx)
      · unfold Instr.findNow
        rw [h1,sQ hd hi,hk,xF rfl]
        rfl
      · unfold dw
        rw [aY hk,List.modify_zero_cons]
        exact⟨rfl,by rw [aK (by simp)];exact hv,fun o' ho' =>ha o' (kN _ ho'),fun p hp=>by rw [←hk];exact h4 p hp,
          DC h5 fun p hp e=>h4 p hp (by rw [hk];exact(p5 e).symm)⟩
    · obtain⟨os',g1,g2⟩:=HJ hd hi (born:=born) hv (i+1) h5 fun o' ho' =>ha o' (kN _ ho')
      rw [aK (fun e=>hk (p5 e).symm)]at h2
      have hf:Instr.findNow d (kv k) (e::es) i=Instr.findNow d (kv k) es (i+1):=by
        conv=>lhs;unfold Instr.findNow
        rw [h1,sQ hd hi,xG (fun e=>hk e.symm)]
      have hm:dw (q::m) k y=q::dw m k y:=by conv=>lhs;unfold dw;rw [aK hk]
      have hap: ∀o' ∈os',∀j,o1.1=some j→o'.1≠some j:=fun o' ho' j hj=>by
        rcases g1 o' ho' with h|rfl
        · exact h3 o' h j hj
        · exact fun e=>ha o1 (kZ ..) j e hj
      have hne: ∀p∈dw m k y,p.1≠q.1:=by
        have: ∀m:List (κ×β),(∀p∈m,p.1≠q.1)→ ∀p∈dw m k y,p.1≠q.1:=by
          intro m
          induction m with
          |nil=>intro _ p hp;rw [A3.1 hp];exact fun e=>hk e.symm
          |cons p0 m ih=>
            intro hm p hp
            unfold dw at hp
            split at hp
            · rcases fx.1 hp with rfl|hp
              · exact fun e=>hk e.symm
              · exact hm p (kN _ hp)
            · rcases fx.1 hp with rfl|hp
              · exact hm _ (kZ ..)
              · exact ih (fun p hp=>hm p (kN _ hp)) p hp
        exact this m h4
      rw [hf,hm]
      refine⟨o1::os',fun x hx=>?_,g2.imp (fun⟨j,e',f1,f2,f3,f4⟩=>⟨j+1,e',by rw [f1];congr 3;omega,by simpa using f2,f3,?_⟩) fun⟨f1,f2⟩=>⟨f1,?_⟩⟩
      · rcases fx.1 hx with rfl|hx
        · exact .inl (kZ ..)
        · exact(g1 x hx).imp (kN _) id
      · rw [Lc]
        exact⟨h1,by rw [aK (by simp)];exact h2,hap,hne,f4⟩
      · exact⟨h1,by rw [aK (by simp)];exact h2,hap,hne,f2⟩
theorem HH{h:Option κ}: ∀{es:List MapEntry} {os:List (Option Nat×Nat)} {m:List (κ×β)},xy V kv w S h es os m→ ∀x∈es,∃q∈m,x.key=kv q.1
 |[],[],[],_,x,hx=>by cases hx
 |e::es,o::os,q::m,⟨h1,_,_,_,h5⟩,x,hx=>by
  rcases fx.1 hx with rfl|hx
  ·exact⟨q,kZ ..,h1⟩
  ·obtain⟨q',g1,g2⟩:=HH h5 x hx
   exact⟨q',kN _ g1,g2⟩
theorem QM(hd: ∀a,MapKept.IsKey d (kv a)){h:Option κ}{es:List MapEntry}{os:List (Option Nat×Nat)}{m:List (κ×β)}(h4:xy V kv w S h es os m)(g1:Instr.findNow d (kv k) es i=some none){x:MapEntry}(hx:x∈es):x.key≠kv k:=by
 rcases MapKept.findNow_spec (hd k) es i (fun y hy=>by obtain⟨q,_,e⟩:=HH h4 y hy;rw [e];exact hd _)with⟨_,h2⟩|⟨j,e,h2,_⟩
 ·exact h2 x hx
 ·rw [g1]at h2;cases h2
def oc(V:MV β)(kv:κ→Value)(b:Nat)(h:Option κ)(os:List (Option Nat×Nat))(m:List (κ×β)):OE where
 fp:=fun j=>j=b∨ ∃o∈os,o.1=some j
 p:=fun w S=>S b=none∧(∀o∈os,o.1≠some b)∧ ∃es clock,w.heap[b]? =some (.map es clock)∧xy V kv w S h es.toList os m∧MapKept.Stamped es clock
 here:=by
  intro w S ⟨_,_,es,clock,h3,h4,_⟩ j hj
  rcases hj with rfl|⟨o,ho,hj⟩
  ·exact(wp.1 h3).1
  ·exact HI h4 o ho j hj
 kept:=by
  intro C w w' S S' ⟨h1,h2,es,clock,h3,h4,hst⟩ k hC
  have hlt:=(wp.1 h3).1
  exact⟨by rw [k.old b hlt (hC b (.inl rfl))];exact h1,h2,es,clock,by rw [k.heap b hlt (hC b (.inl rfl))];exact h3,BQ k h4 (fun o ho j hj=>hC j (.inr ⟨o,ho,hj⟩)),hst⟩
def q9(b:Nat):Value:= .map (some b)
end
section
variable{κ:Type} [DecidableEq κ]{V:MV β}{kv:κ→Value}{os:List (Option Nat×Nat)}{m:List (κ×β)}{k:κ}{kt et:TypeId}{i v:Operand}{dst:Option Nat}{ty:TypeId}
def Mm(N:Fr)(G:nm)(x:Operand)(u:Value):Prop:= ∀S a,cU N S a G→a.eval x=u
theorem oz{N:Fr}{q:IntKind}{n:Int}(h:aJ N G x (tD (rI q) n)):Mm N G x (kvI q n):=fun S a hf=>di.1 (h S a hf)
def ZV(P:Program)(T:TypeId)(z:Value):Prop:=(P.info? T).bind (·.zero)=some z
theorem ZV.run{z:Value}(h:ZV P T z)(w:World):(zeroValue T).run P w= .ok z w:=by
 unfold ZV at h
 cases hi:P.info? T with
 |none=>rw [hi]at h;cases h
 |some i=>
  rw [hi]at h
  have h' :i.zero=some z:=h
  simp [zeroValue,typeInfo,hi,h']
theorem AO(V:MV β)(kv:κ→Value)(hd:Nat.blt d E.N.n=true)(k: ∀b,RG E ops Q rest (oc V kv b none [] []::O) ((d,tV (q9 b))::G)):
  RG E ops Q (⟨some d,.makeMap t none,ty,pos,after,none⟩::rest) O G:= .of rfl fun a w S st=>by
 obtain⟨he,hs',hno⟩:=gk (w:=w) (.map #[] 0) st.sat
 have hrun:(execOp a.eval ⟨some d,.makeMap t none,ty,pos,after,none⟩).run E.P w= .ok (.value (q9 w.heap.size)) (w.alloc (.map #[] 0)):=by
  simp [execOp,Instr.makeMap,q9]
 refine⟨fun c h=>(by cases h),?_⟩
 rw [hrun]
 exact k w.heap.size _ _ S ⟨st.ext.step0 he,hs',ql st.own he ⟨hno,fun _ h=>(by cases h),#[],0,xN w _,trivial,MapKept.stamped_empty 0⟩ (fun b hb=>by
  rcases hb with rfl|⟨_,h,_⟩
  ·exact dh _
  ·cases h) st.base_le,st.facts.put hd rfl⟩
theorem nH{kk:Value}{es:Array MapEntry}{clock:Nat}{q:TypeDesc}{z:Value}{u:Option (Nat×Value)}(hm:P.underlying t=some (.map kt et))(hq:P.underlying kt=some q)(hk:MapKept.IsKey q kk)(hb:w.heap[b]? =some (.map es clock))(hz:ZV P et z)(hf:Instr.findNow q kk es.toList 0=some u)(c:Bool):(Instr.lookup t (q9 b) kk c).run P w= .ok (if c then .tuple #[(u.map (·.2)).getD z,.bool u.isSome]else(u.map (·.2)).getD z) w:=by
 cases u with
 |none=>simp [Instr.lookup,q9,lY hm,Oy hb,Ov hq hk,MapKept.run_findKey hq hf,hz.run,Result.andThen]
 |some r=>simp [Instr.lookup,q9,lY hm,Oy hb,Ov hq hk,MapKept.run_findKey hq hf,Result.andThen]
theorem Nv{γ:β→Ty}{z:β}{zv:Value}(hm:E.P.underlying t=some (.map kt et))(hk:H3 E.P kt kv)(hz:ZV E.P et zv)(hzt: ∀S,(γ z).p S zv)(hmem:oc (xx γ) kv b none os m∈O)(hx:aJ E.N G x (tV (q9 b)))(hi:Mm E.N G i (kv k)):
  bR E O G ⟨dst,.lookup t x i false,ty,pos,after,g⟩ (γ ((pH m k).getD z)):= .of_pure fun a w S hs ho hf=>by
 obtain⟨⟨_,_,es,clock,h3,h4,_⟩,_⟩:=cL.mem ho _ hmem
 obtain⟨q,hq,hd,hinj⟩:=hk
 have h1:a.eval x=q9 b:=hx S a hf
 have h2:a.eval i=kv k:=hi S a hf
 obtain⟨_,_,_,h5⟩:=uj hd hinj (k:=k) 0 h4
 rcases h5 with⟨g1,g2⟩|⟨y,o,e,j,g1,g2,g3,g4,g5⟩
 ·refine⟨zv,by simp [execOp,h1,h2,nH hm hq (hd k) h3 hz g2],by rw [g1];exact hzt S⟩
 ·refine⟨e.val,by simp [execOp,h1,h2,nH hm hq (hd k) h3 hz g4],by rw [g1];exact g3.2⟩
theorem KU{γ:β→Ty}{z:β}{zv:Value}(hm:E.P.underlying t=some (.map kt et))(hk:H3 E.P kt kv)(hz:ZV E.P et zv)(hzt: ∀S,(γ z).p S zv)(hmem:oc (xx γ) kv b none os m∈O)(hx:aJ E.N G x (tV (q9 b)))(hi:Mm E.N G i (kv k)):
  bR E O G ⟨dst,.lookup t x i true,ty,pos,after,g⟩ (tT [γ ((pH m k).getD z),tD rB (pH m k).isSome]):= .of_pure fun a w S hs ho hf=>by
 obtain⟨⟨_,_,es,clock,h3,h4,_⟩,_⟩:=cL.mem ho _ hmem
 obtain⟨q,hq,hd,hinj⟩:=hk
 have h1:a.eval x=q9 b:=hx S a hf
 have h2:a.eval i=kv k:=hi S a hf
 obtain⟨_,_,_,h5⟩:=uj hd hinj (k:=k) 0 h4
 rcases h5 with⟨g1,g2⟩|⟨y,o,e,j,g1,g2,g3,g4,g5⟩
 ·refine⟨.tuple #[zv,.bool false],by simp [execOp,h1,h2,nH hm hq (hd k) h3 hz g2],[zv,.bool false],rfl,by rw [g1];exact hzt S,i8.2 (by rw [g1];rfl),trivial⟩
 ·refine⟨.tuple #[e.val,.bool true],by simp [execOp,h1,h2,nH hm hq (hd k) h3 hz g4],[e.val,.bool true],rfl,by rw [g1];exact g3.2,i8.2 (by rw [g1];rfl),trivial⟩
theorem Co{kk:Value}{es:Array MapEntry}{clock:Nat}{q:TypeDesc}{val:Value}(hm:P.underlying t=some (.map kt et))(hq:P.underlying kt=some q)(hk:MapKept.IsKey q kk)(hb:w.heap[b]? =some (.map es clock)):
  (Instr.findNow q kk es.toList 0=some none→(Instr.mapUpdate t (q9 b) kk val).run P w= .ok () {w with heap:=w.heap.setIfInBounds b (.map (es.push ⟨kk,val,clock⟩) (clock+1))})∧
  (∀j e,Instr.findNow q kk es.toList 0=some (some (j,e))→(∀e',es.toList[j]? =some e' →e'.key=kk)→(∃e',es.toList[j]? =some e')→(Instr.mapUpdate t (q9 b) kk val).run P w= .ok () {w with heap:=w.heap.setIfInBounds b (.map (es.modify j fun e=>{e with key:=kk,val:=val}) clock)}):=by
 refine⟨fun hf=>?_,fun j e hf hj he=>?_⟩
 ·simp [Instr.mapUpdate,q9,lY hm,Oy hb,Ov hq hk,MapKept.run_findKey hq hf,MapKept.run_setObj_map _ hb,Result.andThen]
 ·obtain⟨e',he'⟩:=he
  have h1:=hj e' he'
  have h2:es[j]? =some e' :=by simpa using he'
  simp [Instr.mapUpdate,q9,lY hm,Oy hb,Ov hq hk,MapKept.run_findKey hq hf,MapKept.run_setObj_map _ hb,Result.andThen,h2,h1,MapKept.run_keyThatStays hk]
theorem QD{y:β}{o:Option Nat×Nat}{val:Value}(hs:jL w S)(hm:E.P.underlying t=some (.map kt et))(hk:H3 E.P kt kv)(hp:(oc V kv b (some k) os m).p w S)(hv:V.p w S y o val)(hob:o.1≠some b)(hap: ∀o' ∈os,∀j,o.1=some j→o'.1≠some j):
  ∃w' os',(Instr.mapUpdate t (q9 b) (kv k) val).run E.P w= .ok () w' ∧gn (fun j=>j=b) w S w' S∧jL w' S∧(oc V kv b none os' (dw m k y)).p w' S∧(∀j,(oc V kv b none os' (dw m k y)).fp j→(oc V kv b (some k) os m).fp j∨o.1=some j):=by
 obtain⟨hno,hnb,es,clock,h3,h4,hst⟩:=hp
 obtain⟨q,hq,hdk,hinj⟩:=hk
 obtain⟨os',p1,p2⟩:=HJ hdk hinj (born:=clock) hv 0 h4 hap
 have hnb' : ∀o' ∈os',o'.1≠some b:=fun o' ho' =>by
  rcases p1 o' ho' with h|rfl
  ·exact hnb o' h
  ·exact hob
 have hfp: ∀j,(j=b∨ ∃o∈os',o.1=some j)→(j=b∨ ∃o∈os,o.1=some j)∨o.1=some j:=fun j hj=>by
  rcases hj with h|⟨o',ho',e⟩
  ·exact .inl (.inl h)
  ·rcases p1 o' ho' with h|rfl
   ·exact .inl (.inr ⟨o',h,e⟩)
   ·exact .inr e
 have hw: ∀X:Obj,gn (fun j=>j=b) w S {w with heap:=w.heap.setIfInBounds b X} S∧jL {w with heap:=w.heap.setIfInBounds b X} S∧({w with heap:=w.heap.setIfInBounds b X}:World).heap[b]? =some X:=fun X=>
  ⟨⟨rfl,rfl,rfl,dh _,by simp,fun j _ hj=>(MapKept.heap_set (o' :=X) h3).2 j hj,SH.le_refl _,fun _ _ _=>rfl⟩,hs.same fun j o hj=>(MapKept.heap_set (o' :=X) h3).2 j (fun e=>by subst e;rw [hno]at hj;cases hj),(MapKept.heap_set h3).1⟩
 obtain⟨r1,r2⟩:=Co (val:=val) hm hq (hdk k) h3
 rcases p2 with⟨j,e,g1,g2,g3,g4⟩|⟨g1,g2⟩
 ·rw [qS]at g1
  obtain⟨x1,x2,x3⟩:=hw (.map (es.modify j fun e=>{e with key:=kv k,val:=val}) clock)
  refine⟨_,os',r2 j _ g1 (fun e' he' =>by rw [g2]at he';cases he';exact g3) ⟨_,g2⟩,x1,x2,⟨hno,hnb',_,_,x3,?_,MapKept.stamped_modify hst j _ (fun _ _=>rfl) (fun e' _ he' =>by rw [←Array.getElem?_toList,g2]at he';cases he';exact g3.symm)⟩,hfp⟩;refine BQ x1 (by rw [Array.toList_modify];exact g4) fun o' ho' j hj e=>?_
  subst e
  exact hnb' o' ho' hj
 ·obtain⟨x1,x2,x3⟩:=hw (.map (es.push ⟨kv k,val,clock⟩) (clock+1))
  refine⟨_,os',r1 g1,x1,x2,⟨hno,hnb',_,_,x3,?_,MapKept.stamped_push hst (fun x hx e=>?_)⟩,hfp⟩
  rotate_left
  ·exact QM hdk h4 g1 hx e
  refine BQ x1 (by rw [Array.toList_push];exact g2) fun o' ho' j hj e=>?_
  subst e
  exact hnb' o' ho' hj
end

def Ay(tmps:Array Value):ResultVar→Sem Value
 | .tmp t=>pure (tmps.getD t undef)
 | .cell a t=>do loadVar t (←asAddr (tmps.getD a undef))
def PR(P:Program)(N:Fr)(G:nm)(rv:ResultVar)(t:Ty):Prop:= ∀a w S,jL w S→cU N S a G→ ∃v,(Ay a.tmps rv).run P w= .ok v w∧t.p S v
theorem aZ{N:Fr}{k:Nat}{t:Ty}(hk:dn G k=some t):PR P N G (.tmp k) t:=fun a w S _ hf=>⟨_,rfl,hf.at_ k t hk⟩
theorem bt{N:Fr}{k:Nat}{x:α}(ti:TI P T sz bytes agg z)(hsz:r.sz=sz)(hag:r.agg=agg)(hk:dn G k=some (bM r x)):PR P N G (.cell k T) (tD r x):=fun a w S hs hf=>by
 obtain⟨b,off,c,U,fr,h1,h2,h3⟩:=hf.at_ k _ hk
 obtain⟨c',h4,h5⟩:=hs.part h2 (r.len h3)
 rw [←h5]at h3
 have hl:=me ti h4 hsz hag h3
 have h1' :a.tmps[k]?.getD undef=Value.pointer (some ⟨b,off,none⟩):=by simpa [JP] using h1
 exact⟨_,by simp [Ay,h1',asAddr,hl],_,rfl,h3⟩
def Q9(P:Program)(N:Fr)(G:nm):List ResultVar→List Ty→Prop
 |[],[]=>True
 |rv::rvs,t::ts=>PR P N G rv t∧Q9 P N G rvs ts
 |_,_=>False
theorem Q9.run{N:Fr}(hs:jL w S)(hf:cU N S a G): ∀{rvs:List ResultVar} {ts:List Ty},Q9 P N G rvs ts→ ∃vs,(rvs.mapM (Ay a.tmps)).run P w= .ok vs w∧xA S ts vs∧vs.length=rvs.length
 |[],[],_=>⟨[],rfl,trivial,rfl⟩
 |rv::rvs,t::ts,⟨h1,h2⟩=>by
  obtain⟨v,g1,g2⟩:=h1 a w S hs hf
  obtain⟨vs,k1,k2,k3⟩:=Q9.run hs hf h2
  exact⟨v::vs,by simp [List.mapM_cons,g1,k1,Result.andThen],⟨g2,k2⟩,by simp [k3]⟩
theorem bQ{rvs:List ResultVar}(hr:fn.results=rvs.toArray)(h1:Nat.beq rvs.length 1=false)(h:Q9 P ⟨N,[]⟩ G rvs ts):
  AT ⟨P,⟨N,[]⟩,B,w0,S0,none⟩ (bodyPost P fn (N3 ⟨P,⟨N,[]⟩,B,w0,S0,none⟩ (tT ts))) .ret O G:=fun a w S st=>by
 obtain⟨vs,k1,k2,k3⟩:=h.run st.sat st.facts
 have hne: ¬vs.length=1:=by rw [k3];intro e;rw [e]at h1;cases h1
 refine⟨st.facts.defers,.tuple vs.toArray,?_,_,S,rfl,st.ext,st.sat,vs,rfl,k2⟩
 have e1:(fn.results.mapM (Ay a.tmps)).run P w= .ok vs.toArray w:=by
  rw [hr,List.mapM_toArray,Sem.run_map,k1]
  rfl
 have e3:results fn a.tmps=((fn.results.mapM (Ay a.tmps))>>=fun vs=>pure (if h:vs.size=1 then vs[0]else .tuple vs)):=rfl
 rw [e3,xr,e1]
 simp [Result.andThen,hne]

theorem RM{v:Value}(h:(tD (gi r) xs).p S v):(gi r).rc S [v] xs:=by
 obtain⟨cs,e,h2⟩:=h
 obtain⟨a,cap,e2,h3⟩:=h2
 subst e2
 rw [e]
 exact⟨a,cap,rfl,h3⟩
section
variable{ty:TypeId}
theorem q8{r:Rp β}{get:β→Value}{x:β}{p:Operand}(ti:TI E.P U 1 bytes false z)(hget:qH r off rV get)(hm:bx r T b x∈O)(hv:get x=aT l cap n)(hp:aJ E.N G p (tV (aO b off))):
  bR E O G ⟨dst,.load U p,ty,pos,after,g⟩ (tV (aT l cap n)):=(ce (q:=rV) ti rfl rfl hget hm hp).imp fun _ _ h=>by rw [←hv];exact(wv.1 h).1
theorem tf{q:Rp α}{r:Rp β}{get:β→Value}{x:β}{V:TypeId}{p:Operand}(ti:TI E.P U 1 bytes false z)(hget:qH r off rV get)(hm:bx r T b x∈O)(hm2:dW q V l cap xs∈O)(hv:get x=aT l cap xs.length)(hp:aJ E.N G p (tV (aO b off))):
  bR E O G ⟨dst,.load U p,ty,pos,after,g⟩ (tO q l cap xs):=fun a w S hs ho hf=>
 oR (fun _ _ ⟨v,S',h1,h2,h3,h4⟩=>⟨v,S',h1,h2,h3,h4,by
  have h5:v=aT l cap xs.length:=h4
  rw [h5]
  exact qe (((ho.ext0 h2).mem _ hm2).1)⟩) (q8 (g:=g) (ty:=ty) (pos:=pos) (after:=after) (dst:=dst) ti hget hm hv hp a w S hs ho hf)
theorem pf{o:Nat}{p:Operand}(hf:cV E.P T i=some (off,sz))(h0:Nat.beq sz 0=false)(hp:aJ E.N G p (tV (aO b o)))(he:o+off=n):bR E O G ⟨dst,.fieldAddr T p i,ty,pos,after,g⟩ (tV (aO b n)):=by
 subst he
 exact GM hf h0 hp
theorem wJ{q:Rp α}{r:Rp β}{x:β}{p:Operand}(ti:TI E.P U sz bytes agg z)(hsz:q.sz=sz)(hag:q.agg=agg)(hag2:r.agg=agg)(hsz2:r.sz=sz)(hm:bx r T b x∈O)(hc: ∀w S cs,cL E.base E.B w S O→r.rc S cs x→q.rc S cs y)(hp:aJ E.N G p (tV (aO b 0))):
  bR E O G ⟨dst,.load U p,ty,pos,after,g⟩ (tD q y):= .of_pure fun a w S _ ho hf=>by
 have h1:a.eval p=aO b 0:=hp S a hf
 obtain⟨⟨_,cur,h5,h6⟩,_⟩:=ho.mem _ hm
 have h7:=hc w S _ ho h6
 have hl:=q.len h7
 have h8:q.rc S ((cur.toList.drop 0).take q.sz) y:=by rw [zz,sK (by omega)];exact h7
 exact⟨_,by simp [execOp,h1,aO,Instr.loadAt,Instr.sureAddr,me ti h5 hsz hag h8],_,rfl,h8⟩
theorem Bu{q:Rp α}{V:TypeId}(ho:cL base B w S O)(hm:dW q V l cap xs∈O):(gi q).rc S [aT l cap xs.length] xs:=RM (qe (ho.mem _ hm).1)
end
def wb{α β γ:Type}(r:Rp α)(r' :Rp γ)(off:Nat)(q:Rp β)(x:α)(y:β)(x' :γ):Prop:= ∀S cs ds,r.rc S cs x→q.rc S ds y→r'.rc S (cs.take off++ds++cs.drop (off+q.sz)) x'
theorem Au{set:α→β→α}{x:α}{y:β}(h:ko r off q set):wb r r off q x y (set x y):=fun S cs ds h1 h2=>h S cs x ds y h1 h2
theorem yW{r' :Rp γ}{x:α}{y:γ}(hs:r.sz=r'.sz):wb r r' 0 r' x y y:=fun S cs ds h1 h2=>by
 have hl:=r.len h1
 rw [List.take_zero,kz,Et (by omega),sw]
 exact h2
theorem OM{α' :Type}{p:Rp α}{p' :Rp α'}{x:α×β}{y:γ}{x1:α'}(h:wb p p' 0 u x.1 y x1)(hu:Nat.ble u.sz p.sz=true):wb (cQ p q) (cQ p' q) 0 u x y (x1,x.2):=fun S cs ds ⟨a,b,e,h1,h2⟩ hd=>by
 have hl:=p.len h1
 have hu' :=pw hu
 have h3:=h S a ds h1 hd
 subst e
 rw [List.take_zero,kz,qS,Hc (by omega),←jX]
 rw [List.take_zero,kz,qS]at h3
 exact⟨_,_,rfl,h3,h2⟩
theorem lu{β' :Type}{p:Rp α}{q' :Rp β'}{x:α×β}{y:γ}{off' :Nat}{x2:β'}(h:wb q q' off u x.2 y x2)(ho:off' =p.sz+off):wb (cQ p q) (cQ p q') off' u x y (x.1,x2):=fun S cs ds ⟨a,b,e,h1,h2⟩ hd=>by
 have hl:=p.len h1
 have h3:=h S b ds h2 hd
 subst e ho
 refine⟨a,_,?_,h1,h3⟩
 have e1:p.sz+off-a.length=off:=by omega
 have e2:p.sz+off+u.sz-a.length=off+u.sz:=by omega
 rw [List.take_append,List.drop_append,sK (by omega),Et (by omega),e1,e2]
 simp
theorem Iw{α' β' :Type}{p:Rp α}{p' :Rp α'}{f:β→α}{f' :β' →α'}{x:β}{x' :β'}{y:γ}{z:α'}(h:wb p p' off u (f x) y z)(e:f' x' =z):wb (qk p f) (qk p' f') off u x y x' :=fun S cs ds h1 h2=>by
 show p'.rc S _ (f' x')
 rw [e]
 exact h S cs ds h1 h2
section
variable{e:Exit}{ty:TypeId}
theorem ur{r' :Rp γ}{x:α}{x' :γ}{y:β}{p v:Operand}(ti:TI E.P U sz bytes agg z)(hsz:q.sz=sz)(hset:wb r r' off q x y x')(hoff:Nat.ble (off+q.sz) r.sz=true)(hp:aJ E.N G p (tV (aO b off)))(hv:aJ E.N G v (tD q y))(k:RG E ops Q rest (bx r' T b x' ::O) G):RG E ops Q (⟨none,.store U p v,ty,pos,after,none⟩::rest) (bx r T b x::O) G:= .of rfl fun a w S st=>by
 have h1:a.eval p=aO b off:=hp S a st.facts
 obtain⟨ds,h2,h3⟩:=hv S a st.facts
 obtain⟨⟨hno,cur,h5,h6⟩,_⟩:=st.own.1
 have hl:=r.len h6
 have hoff' :=pw hoff
 obtain⟨w',hr,e1,e2,e3,e4,e5,e6⟩:=ld ti hsz h3 h5 (off:=off) (by simp at hl;omega)
 have hrun:(execOp a.eval ⟨none,.store U p v,ty,pos,after,none⟩).run E.P w= .ok .skip w' :=by
  simp [execOp,h1,h2,Instr.storeAt,aO,Instr.sureAddr,hr]
 refine⟨fun c h=>(by cases h),?_⟩
 rw [hrun]
 obtain⟨g1,g2,g3⟩:=q5 (O:=O) st.sat (bx r T b x) (bx r' T b x') st.own (fun _=>Iff.rfl) (fun _=>Iff.rfl) ⟨e1,e2,e3,e4.1,e4.2⟩ e6 ⟨hno,_,e5,by simpa using hset S _ _ h6 h3⟩ hno
 exact k _ _ S ⟨st.ext.step g1 (fun c hc=>st.own.1.2 c hc),g2,g3,st.facts⟩
end

section
variable{b:Frame}{k:List Item}{cs:List Frame}{F:Fence}
theorem pP:step P (lone (b.atR a (.code (.scope c)::k)) cs w)= .next (lone (b.atR a (.code c:: .inScope c::k)) cs w):=
 step_lone_go (by simp [stepG,stepG.exec,Frame.atR])
theorem Gz:step P (lone (b.atR a (.inScope c::k)) cs w)= .next (lone (b.atR a k) cs w):=
 step_lone_go (by simp [stepG,stepG.exec,Frame.atR])
theorem MD(h:c.wpIn F n P (Exit.noGoto Q) a w):(Code.scope c).wpIn F n P Q a w:=by
 intro b k cs hro hb hr
 have h0:(lone (b.atR a (.code (.scope c)::k)) cs w).fenced P F:=fenced_calm hb hr rfl
 obtain⟨e,a₁,w₁,hq,harr⟩:=h b (.inScope c::k) cs hro hb hr
 cases e with
 |normal=>exact⟨.normal,a₁,w₁,hq,.head h0 pP (StepsIn.trans harr (.one (fenced_calm hb hr rfl) Gz))⟩
 |exit id=>
  have hx:exitTo id (.inScope c::k)=exitTo id k:=by simp [exitTo]
  exact⟨.exit id,a₁,w₁,hq,fun k' hk=> .head h0 pP (harr.1 k' (by rw [hx];exact hk)),
   fun hr' hk=>let⟨k₁,h1,h2⟩:=harr.2 hr' (by rw [hx];exact hk);⟨k₁,h1,.head h0 pP h2⟩⟩
 |goto l=>exact hq.elim
 |ret=>exact⟨_,a₁,w₁,hq,.of_steps (.one h0 pP) harr⟩
 |panic ch=>exact⟨_,a₁,w₁,hq,.of_steps (.one h0 pP) harr⟩
 |outgrown=>exact⟨_,a₁,w₁,hq,.of_steps (.one h0 pP) harr⟩
end
section
theorem Mr(h:CG E (Exit.noGoto Q) c O G):CG E Q (.scope c) O G:=fun a w S st=>MD (h a w S st)
theorem Ms{l:Nat}(h:AT E Q .normal O G):CG E Q (.label l) O G:=fun a w S st=>wpIn_label (h a w S st)
theorem zx(h:AT E Q .ret O G):AT E (Exit.noGoto Q) .ret O G:=h
end

theorem Ja [Inhabited α](h:i<m):qH (vg r m) (i*r.sz) r (fun x=>(x[i]?).getD default):=fun S cs x ⟨h1,h2⟩=>by
 have hi:x[i]? =some ((x[i]?).getD default):=by rw [oM (by omega)];rfl
 exact D8 h2 hi
theorem WB [DecidableEq α] [Inhabited α]{t e:Nat}(ht:P.underlying t=some (.array m e))(ti:TI P e sz bytes agg z)(hsz:r.sz=sz)(hag:r.agg=agg)(he:sq P e r n):sq P t (vg r m) (n+1):=fun S cs ds x y d w hx hy=>by
 obtain⟨i,zv,hi,hs,_⟩:=ti.get
 have hcell:P.cellsOf e=r.sz:=by unfold Program.cellsOf;rw [hi];simp [hs,hsz]
 have e1:(vg r m).val cs= .agg cs.toArray:=rfl
 have e2:(vg r m).val ds= .agg ds.toArray:=rfl
 rw [e1,e2,show d+(n+1)=(d+n)+1 from rfl,run_equalIn_array w (d+n) cs.toArray ds.toArray ht hi,List.range_eq_range',hcell]
 have key: ∀k j,j+k=m→(Op.eqItems (d+n) e r.sz cs.toArray ds.toArray (List.range' j k)).run P w= .ok (decide (x.drop j=y.drop j)) w:=by
  intro k
  induction k with
  |zero=>
   intro j hj
   rw [Et (by have:=hx.1;omega),Et (by have:=hy.1;omega)]
   rfl
  |succ k ih=>
   intro j hj
   have hjx:j<x.length:=by have:=hx.1;omega
   have hjy:j<y.length:=by have:=hy.1;omega
   have h1:=sR ti hsz hag (Ja (r:=r) (m:=m) (i:=j) (by omega)) hx w
   have h2:=sR ti hsz hag (Ja (r:=r) (m:=m) (i:=j) (by omega)) hy w
   have h3:=he S _ _ _ _ d w (Ja (r:=r) (m:=m) (i:=j) (by omega) S cs x hx) (Ja (r:=r) (m:=m) (i:=j) (by omega) S ds y hy)
   rw [List.range'_succ]
   unfold Op.eqItems
   simp only [xr,h1,h2,h3,zB]
   have ex:x.drop j=(x[j]?).getD default::x.drop (j+1):=by rw [oM hjx];exact xL hjx
   have ey:y.drop j=(y[j]?).getD default::y.drop (j+1):=by rw [oM hjy];exact xL hjy
   rw [ex,ey]
   by_cases hq:(x[j]?).getD default=(y[j]?).getD default
   ·simp only [hq,C5,mL,gm,d9]
    rw [ih (j+1) (by omega)]
    congr 1
    simp
   ·simp [hq]
 have:=key m 0 (by omega)
 simpa using this
section
variable{ty:TypeId}
theorem Hw{xs:List Operand}{sz' bytes' :Nat}{agg' :Bool}{z' :List Value}(ht:E.P.underlying t=some (.array m T))(ti:TI E.P T sz bytes agg z)(hsz:r.sz=sz)(tj:TI E.P t sz' bytes' agg' z')(hz:z'.length=m*r.sz)(hm:m=ys.length)(hx:jV E.N G xs (ys.map (tD r))):bR E O G ⟨dst,.build t (Ad 0 xs).toArray,ty,pos,after,g⟩ (tD (vg r m) ys):=
 .of_pure fun a w S _ _ hF=>by
  obtain⟨zv,hzr,hzc⟩:=tj.zero w
  obtain⟨cs,hc,hfill⟩:=FS ys (xs.map a.eval) 0 [] z' (hx.tys hF) (by simp) (by rw [hz,hm])
  subst hsz
  have hparts:((Ad 0 xs).toArray.map fun(i,x)=>(i,a.eval x)).toList=DB 0 (xs.map a.eval):=by simpa using CK a.eval 0 xs
  rw [kz,kz]at hfill
  refine⟨.agg cs.toArray,?_,cs,rfl,hm.symm,hc⟩
  simp only [execOp,Instr.build,xr,hzr,zB,lY ht,ti.sizeOf,hzc,hparts,hfill]
  simp
end
end Go.Proofs.YtfhhakidodmdfaaGreatDoor

