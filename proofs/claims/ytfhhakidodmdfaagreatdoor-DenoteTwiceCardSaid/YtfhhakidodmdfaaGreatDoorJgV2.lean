/- cP of this claim: W16, W17, W18, W19, W20, W22, W23, W24, W25, W26, W28, W30, W31, W32. -/
import Derived.Test.YtfhhakidodmdfaaGreatDoorJgV1
import Derived.RangeFuncRecord
import Derived.RangeFuncLeaves
import Derived.Laws.StructEq
import Derived.Lib.ConvBytes
import Derived.Lib.AppendZeros
import Derived.Laws.MakeOwn
import Derived.MapKept
import Derived.Scope
import Derived.ChangeKeysEq
set_option linter.all false
namespace Go.Proofs.YtfhhakidodmdfaaGreatDoor
open Go

def nK(L:List Oper):Nat→Nat→Nat→Bool
 |0,_,_=>false
 |n+1,i,j=>match L[i]? with
  |some o=>o.after.toList.any fun e=>Region.binds .any e&&(Nat.beq e.on j||nK L n e.on j)
  |none=>false
def wv(L:List Oper)(m:Nat):Bool:=(List.range m).all fun j=>nK L L.length m j
def zl(L:List Oper)(n k:Nat):Bool:=(List.range k).all fun m=>wv L (n+m)&&(match L[n+m]? with|some o=>eF (n+m) o&&o.guard.isNone|none=>false)
variable{L:List Oper}{done:Array Bool}{e:TypeId}{hi:Int}{i:Nat}{j:Int}{n:Nat}{o:Oper}
theorem gg{L:List Oper}{done:Array Bool}(down: ∀j o,L[j]? =some o→done.getD j false=true→ ∀e∈o.after,Region.binds .any e=true→done.getD e.on false=true):
  ∀(n i j:Nat),(∀o,L[i]? =some o→ ∀e∈o.after,Region.binds .any e=true→done.getD e.on false=true)→nK L n i j=true→done.getD j false=true
 |0,_,_,_,h=>by cases h
 |n+1,i,j,hi,h=>by
  unfold nK at h
  cases ho:L[i]? with
  |none=>rw [ho]at h;cases h
  |some o=>
   rw [ho]at h
   obtain⟨e,he0,hb⟩:=ud.1 h
   have he:e∈o.after:=by simpa using he0
   rw [mi,pW]at hb
   have hd:=hi o ho e he hb.1
   rcases hb.2 with h1|h1
   ·rw [←oT h1];exact hd
   ·exact gg down n e.on j (fun p hp=>down e.on p hp hd) h1
variable{E:En}{G:mu}{O:List OE}{S S' :SH}{a:Act}{d:Nat}{k:IntKind}{l:Option Nat}{t:TypeId}{ts:List Ty}{γ:Type}{u:Rp γ}{w w' :World}
theorem DJ.stepT{l:List Oper}(h:DJ E O G l ts done a w S){t:Ty}{v:Value}(hi:l[i]? =some o)(hd:o.dst=some d)(hdN:d<E.N.n)(hs2: ∀j p,l[j]? =some p→done.getD j false=true→p.dst=some d→i=j)(hwait: ∀e∈o.after,Region.binds .any e=true→done.getD e.on false=true)(ht:ts[i]? =some t)(hun:done.getD i true=false)(hext:fY pT w S w' S')(hsat:jy w' S')(hv:t.p S' v):DJ E O G l ts (done.setIfInBounds i true) (a.put o.dst v) w' S' :=by
 have hda:d<a.tmps.size:=by rw [h.size];exact hdN
 have hlt:i<done.size:=by rw [h.dsz];exact(jM.1 hi).1
 have hset: ∀j,(done.setIfInBounds i true).getD j false=true→j=i∨done.getD j false=true:=fun j hj=>by
  by_cases hij:i=j
  ·exact .inl hij.symm
  ·rw [u0 false hij]at hj;exact .inr hj
 have hseti:(done.setIfInBounds i true).getD i false=true:=by simp [hlt]
 have hun' :done.getD i false=false:=by simp [hlt]at hun ⊢;exact hun
 refine⟨h.ext.step0 hext,hsat,h.own.ext0 hext,?_,?_,by simp [h.dsz],fun j p hj hdone e he hb=>?_,fun k u hk hno=>?_,fun j p d' u hj hdone hd' hu=>?_⟩
 ·rw [hd];simp [Act.put,h.size]
 ·rw [hd];exact h.defers
 ·rcases hset j hdone with rfl|hj'
  ·rw [hi]at hj
   have:o=p:=by simpa using hj
   subst this
   exact vK (hwait e he hb)
  ·exact vK (h.down j p hj hj' e he hb)
 ·have hne:d≠k:=fun e=>hno i o hi hseti (by rw [hd,e])
  rw [hd,rj hda,aL hne]
  exact u.mono hext.keep (h.old k u hk fun j p hj hdone=>hno j p hj (vK hdone))
 ·rw [hd,rj hda]
  rcases hset j hdone with rfl|hj'
  ·rw [hi]at hj
   have:o=p:=by simpa using hj
   subst this
   rw [hd]at hd'
   have:d=d' :=by simpa using hd'
   subst this
   rw [aY rfl]
   rw [ht]at hu
   have:t=u:=by simpa using hu
   subst this
   exact hv
  ·have hne:d≠d' :=fun e=>by
    subst e
    have:=hs2 j p hj hj' hd'
    subst this
    rw [hj']at hun';cases hun'
   rw [aL hne]
   exact u.mono hext.keep (h.new j p d' u hj hj' hd' hu)
theorem oH(h:i<done.size):done.getD i true=done.getD i false:=by simp [h]
theorem uj(h:lv done=0)(hi:i<done.size):done.getD i false=true:=by
 unfold lv at h
 rw [List.countP_eq_zero]at h
 have h2:done[i]∈done.toList:=by simp
 have:=h _ h2
 rw [←oH hi]
 simpa [hi] using this
variable{P:Program}{Q:Exit→Act→World→Prop}{α:Type}{f:FuncId}{β:Type}{m:Nat}{q:Rp β}{r:Rp α}{rest:List Oper}{xs:List α}
theorem zR{r:Option Nat}(hc: ∀m o,n≤m→L[m]? =some o→wv L m=true)(hedge: ∀m o,L[m]? =some o→eF m o=true):
  ∀(rest:List Oper) (m:Nat) (done:Array Bool) (fuel:Nat) (a:Act) (w:World),n≤m→L.drop m=rest→done.size=L.length→(∀j,j<L.length→(done.getD j false=true↔j<m))→lv done=fuel→
   wpListIn (fw r) 0 P L.toArray Q rest a w→wpAnyIn (fw r) 0 P .any L.toArray Q fuel done a w:=by
 intro rest
 induction rest with
 |nil=>
  intro m done fuel a w hnm hdrop hsz hdone hu h
  have hlen:L.length≤m:=F3.1 hdrop
  have hr:Region.ready .any L.toArray done=[]:=by
   cases hr:Region.ready .any L.toArray done with
   |nil=>rfl
   |cons i r=>
    have hm:i∈Region.ready .any L.toArray done:=by rw [hr];exact kO ..
    obtain⟨hun,o,ho,_⟩:=sZ.1 hm
    have hi:i<L.length:=by simpa using (vT.1 ho).1
    have:=(hdone i hi).2 (by omega)
    rw [oH (by omega)]at hun
    rw [hun]at this;cases this
  cases fuel with
  |zero=>exact⟨hr,h⟩
  |succ f=>exact⟨fun _=>h,fun i hi=>by rw [hr]at hi;cases hi⟩
 |cons o rest ih=>
  intro m done fuel a w hnm hdrop hsz hdone hu h
  have hm:m<L.length:=by
   rcases m8 m L.length with h' |h'
   ·exact h'
   ·rw [F3.2 h']at hdrop;cases hdrop
  have hLm:L[m]? =some o:=by
   have:=wU (xs:=L) (i:=m) (j:=0)
   rw [hdrop]at this
   simpa using this.symm
  have hmu:done.getD m true=false:=by
   have hnot: ¬(done.getD m false=true):=fun h2=>by have:=(hdone m hm).1 h2;omega
   rw [oH (by omega)]
   exact xd _▸hnot
  have honly: ∀i∈Region.ready .any L.toArray done,i=m:=by
   intro i hi
   obtain⟨hun,p,hp,hwait⟩:=sZ.1 hi
   have hp' :L[i]? =some p:=by simpa using hp
   have hil:i<L.length:=(jM.1 hp').1
   have hid: ¬i<m:=fun hlt=>by
    have h2:=(hdone i hil).2 hlt
    rw [oH (by omega)]at hun
    rw [hun]at h2;cases h2
   rcases m8 m i with hlt|hge
   ·exfalso
    have hcov:=hc i p (by omega) hp'
    unfold wv at hcov
    have hre:=jZ.1 hcov m (by simpa using hlt)
    have:done.getD m false=true:=by
     refine gg (L:=L) (done:=done) (fun j q hj hjd e he hb=>?_) _ i m (fun q hq e he hb=>?_) hre
     ·have hjl:j<L.length:=(jM.1 hj).1
      have hjm:=(hdone j hjl).1 hjd
      have:=hedge j q hj
      unfold eF at this
      have:=jZ.1 this e (by simpa using he)
      simp only [hb,mw,se,wS]at this
      exact(hdone e.on (by omega)).2 (by omega)
     ·have:q=p:=by rw [hp']at hq;simpa using hq.symm
      subst this
      exact hwait e he hb
    have:=(hdone m hm).1 this
    omega
   ·omega
  have hready:m∈Region.ready .any L.toArray done:=by
   rw [sZ]
   refine⟨hmu,o,by simpa using hLm,fun e he hb=>?_⟩
   have:=hedge m o hLm
   unfold eF at this
   have:=jZ.1 this e (by simpa using he)
   simp only [hb,mw,se,wS]at this
   exact(hdone e.on (by omega)).2 this
  cases fuel with
  |zero=>
   have:=uj hu (i:=m) (by omega)
   have:=(hdone m hm).1 this
   omega
  |succ fuel=>
   refine⟨fun hr=>(by rw [hr]at hready;cases hready),fun i hi=>?_⟩
   have:=honly i hi
   subst this
   have hnext:=fun a w=>ih (i+1) (done.setIfInBounds i true) fuel a w (by omega) (by rw [←pV,hdrop];rfl) (by simpa using hsz) (fun j hj=>by
    by_cases hij:i=j
    ·subst hij;have:i<done.size:=by omega
     simp [this]
    ·rw [u0 false hij,hdone j hj];omega) (by have:=qH hmu;omega)
   unfold wpOpIn
   have hLm' :L.toArray[i]? =some o:=by simpa using hLm
   rw [hLm']
   show if _ then _ else _
   unfold wpListIn at h
   by_cases hw:Region.wanted o (yielded L.toArray a.tmps)=true
   ·rw [aY hw]at h ⊢;exact Oper.wpIn_mono (fun a w hk=>hnext a w hk) h
   ·rw [aL hw]at h ⊢;exact⟨h.1,hnext _ _ h.2⟩
theorem Jy{l t:List Oper}(hsl:vZ E.N.n [] l=true)(hlen:ts.length=l.length)(hd:DR E O G (l++t) ts 0 l)(ht:zl (l++t) l.length t.length=true)(hQ: ∀a w S,St E O (MB l ts G) a w S→wpListIn (fw E.r) 0 E.P (l++t).toArray Q t a w):
  ∀(fuel:Nat) (done:Array Bool) (a:Act) (w:World) (S:SH),lv done=fuel→(∀j,l.length≤j→done.getD j false=false)→DJ E O G (l++t) ts done a w S→wpAnyIn (fw E.r) 0 E.P .any (l++t).toArray Q fuel done a w:=by
 have hL1: ∀i o,i<l.length→(l++t)[i]? =some o→l[i]? =some o:=fun i o hi h=>by rwa [xi hi]at h
 have hL2: ∀i o,l[i]? =some o→(l++t)[i]? =some o:=fun i o h=>by rw [xi (jM.1 h).1];exact h
 have htail: ∀m o,l.length≤m→(l++t)[m]? =some o→wv (l++t) m=true∧eF m o=true:=fun m o hm ho=>by
  have hml:m<(l++t).length:=(jM.1 ho).1
  rw [iI]at hml
  unfold zl at ht
  have:=jZ.1 ht (m-l.length) (by simp;omega)
  rw [show l.length+(m-l.length)=m from by omega,ho]at this
  simp only [mi]at this
  exact⟨this.1,this.2.1⟩
 have hedge: ∀i o,(l++t)[i]? =some o→eF i o=true:=fun i o hi=>by
  rcases m8 i l.length with h|h
  ·obtain⟨_,_,_,_,_,h,_⟩:=DR.get l 0 hd i o (hL1 i o h hi)
   simpa using h
  ·exact(htail i o h hi).2
 obtain⟨hs1,hs2⟩:=xy l [] hsl
 have fin: ∀fuel done a w S,lv done=fuel→(∀j,l.length≤j→done.getD j false=false)→DJ E O G (l++t) ts done a w S→(∀i,i<l.length→done.getD i false=true)→wpAnyIn (fw E.r) 0 E.P .any (l++t).toArray Q fuel done a w:=by
  intro fuel done a w S hu hfree h hall
  refine zR (n:=l.length) (fun m o hm ho=>(htail m o hm ho).1) hedge t l.length done fuel a w (dy _) (by simp) h.dsz (fun j hj=>⟨fun hjd=>?_,fun hlt=>hall j hlt⟩) hu
   (hQ a w S ⟨h.ext,h.sat,h.own,h.size,h.defers,fun j u hj=>?_⟩)
  ·rcases m8 j l.length with h' |h'
   ·exact h'
   ·rw [hfree j h']at hjd;cases hjd
  ·rcases G7 l ts j u (fun o ho e=>by obtain⟨d,hd,_⟩:=hs1 o ho;rw [hd]at e;cases e) hlen hj with⟨i,o,h1,h2,h3⟩|⟨h1,h2⟩
   ·exact h.new i o j u (hL2 i o h1) (hall i (jM.1 h1).1) h2 h3
   ·refine h.old j u h1 fun i o ho hdn=>?_
    rcases m8 i l.length with h' |h'
    ·exact h2 o (rU (hL1 i o h' ho))
    ·rw [hfree i h']at hdn;cases hdn
 have lower: ∀done a w S i,(∀j,l.length≤j→done.getD j false=false)→DJ E O G (l++t) ts done a w S→i∈Region.ready .any (l++t).toArray done→l.length≤i→ ∀j,j<l.length→done.getD j false=true:=by
  intro done a w S i hfree h hi hge j hj
  obtain⟨hun,p,hp,hwait⟩:=sZ.1 hi
  have hp' :(l++t)[i]? =some p:=by simpa using hp
  have hcov:=(htail i p hge hp').1
  unfold wv at hcov
  have hre:=jZ.1 hcov j (by simp;omega)
  exact gg h.down _ i j (fun q hq e he hb=>by
   have:q=p:=by rw [hp']at hq;simpa using hq.symm
   subst this
   exact hwait e he hb) hre
 intro fuel
 induction fuel with
 |zero=>
  intro done a w S hu hfree h
  exact fin 0 done a w S hu hfree h fun i hi=>uj hu (by rw [h.dsz,iI];omega)
 |succ fuel ih=>
  intro done a w S hu hfree h
  by_cases hall: ∀i,i<l.length→done.getD i false=true
  ·exact fin _ done a w S hu hfree h hall
  have hready0: ∀m i,i<m→i<l.length→Region.ready .any (l++t).toArray done=[]→done.getD i false=true:=by
   intro m
   induction m with
   |zero=>intro i h;omega
   |succ m ihm=>
    intro i him hil hr
    have his:i<done.size:=by rw [h.dsz,iI];omega
    by_cases hdn:done.getD i true=true
    ·rw [←oH his];exact hdn
    ·exfalso
     obtain⟨o,ho⟩: ∃o,(l++t)[i]? =some o:=⟨l[i],hL2 i _ (oO hil)⟩
     have hmem:i∈Region.ready .any (l++t).toArray done:=by
      rw [sZ]
      refine⟨by simpa using hdn,o,by simpa using ho,fun e he hb=>?_⟩
      have:=hedge i o ho
      unfold eF at this
      have:=jZ.1 this e (by simpa using he)
      simp only [hb,mw,se,wS]at this
      exact ihm e.on (by omega) (by omega) hr
     rw [hr]at hmem;cases hmem
  refine⟨fun hr=>absurd (fun i hi=>hready0 (i+1) i (by omega) hi hr) hall,fun i hi=>?_⟩
  have hil:i<l.length:=by
   rcases m8 i l.length with h' |h'
   ·exact h'
   ·exact absurd (lower done a w S i hfree h hi h') hall
  obtain⟨hun,o,ho,hwait⟩:=sZ.1 hi
  have ho' :(l++t)[i]? =some o:=by simpa using ho
  have hol:=hL1 i o hil ho'
  obtain⟨needs,u,h1,h2,h3,_,h5⟩:=DR.get l 0 hd i o hol
  rw [uc]at h1 h3
  have hF:=h.need ho' hun hwait h2 h3
  have h6:=h5 a w S h.sat h.own hF
  have hu' :lv (done.setIfInBounds i true)=fuel:=by have:=qH hun;omega
  obtain⟨d,hdd,hdN,_⟩:=hs1 o (rU hol)
  have huq: ∀j p,(l++t)[j]? =some p→done.getD j false=true→p.dst=some d→i=j:=fun j p hj hjd hpd=>by
   rcases m8 j l.length with h' |h'
   ·exact hs2 i j o p hol (hL1 j p h' hj) (by rw [hdd,hpd])
   ·rw [hfree j h']at hjd;cases hjd
  have hfree' : ∀j,l.length≤j→(done.setIfInBounds i true).getD j false=false:=fun j hj=>by
   rw [u0 false (by omega)];exact hfree j hj
  unfold wpOpIn
  rw [ho]
  show if _ then _ else _
  by_cases hw:Region.wanted o (yielded (l++t).toArray a.tmps)=true
  ·rw [aY hw]at h6 ⊢
   refine k5 (fun a' w' ⟨v,S',ha,he,hs,hv⟩=>?_) h6
   subst ha
   exact ih _ _ _ S' hu' hfree' (h.stepT ho' hdd hdN huq hwait h1 hun he hs hv)
  ·rw [aL hw]at h6 ⊢
   exact⟨fun _ _=>trivial,ih _ _ _ S hu' hfree' (h.stepT ho' hdd hdN huq hwait h1 hun (fY.refl _ _ _) h.sat h6)⟩
theorem Th{id:Nat}{l t:List Oper}(hL:L=l++t)(hm:E.P.follows .mixedOrders=true)(hsl:vZ E.N.n [] l=true)(hlen:ts.length=l.length)(ht:zl L l.length t.length=true)(hd:DR E O G L ts 0 l)(k:RG E L.toArray Q t O (MB l ts G)):CG E Q (.region id L.toArray true) O G:=fun a w S st=>by
 subst hL
 refine wpIn_region_any hm ?_
 obtain⟨he,hs⟩:=yj (w:=w) st.sat
 refine Jy hsl hlen hd ht (fun a w S st=>k a w S st) _ _ _ _ S ?_ (fun j _=>?_)
  ⟨st.ext.step0 he,hs,st.own.ext0 he,st.facts.size,st.facts.defers,by simp,fun j o hj hdone=>?_,fun k t hk _=>st.facts.at_ k t hk,fun j o d t hj hdone=>?_⟩
 ·unfold lv;rw [NN,NK];simp
 ·simp [zP];split<;>rfl
 ·simp [zP]at hdone
  split at hdone<;>simp at hdone
 ·simp [zP]at hdone
  split at hdone<;>simp at hdone

abbrev It(α:Type):=(σ:Type)→(α→σ→Option (Bool×σ))→σ→Option σ

def qA(Se:SH)(O:List OE):OE where
 fp:=fun k=> ∃f∈O,f.fp k
 p:=fun w S=>SH.le Se S∧cJ 0 pT w S O
 here:=fun⟨_,h⟩ _ ⟨f,hf,hk⟩=>f.here (cJ.mem h f hf).1 _ hk
 kept:=fun⟨h1,h2⟩ k hC=>⟨SH.le_trans h1 k.keep,h2.ext k fun f hf b hb=>hC b ⟨f,hf,hb⟩⟩
variable{B:Nat→Prop}{base:Nat}
theorem cJ.weak: ∀{O:List OE},cJ base B w S O→cJ 0 pT w S O
 |[],_=>trivial
 |_::_,⟨h1,h2,h3⟩=>⟨⟨h1.1,fun _ _=> .inl (lF _)⟩,h2,cJ.weak h3⟩
theorem ku: ∀{O:List OE},cJ 0 pT w S O→(∀f∈O,∀k,f.fp k→base≤k∨B k)→cJ base B w S O
 |[],_,_=>trivial
 |_::_,⟨h1,h2,h3⟩,h=>⟨⟨h1.1,h _ (kO ..)⟩,h2,ku h3 fun f hf=>h f (kN _ hf)⟩
def wg(l:Nat)(r:Loop)(st:LoopState):OE where
 fp:=fun k=>k=l
 p:=fun w S=>S l=none∧w.heap[l]? =some (.loop {r with state:=st,pending:=none})
 here:=by
  intro w S h k hk
  subst hk
  exact(vT.1 h.2).1
 kept:=by
  intro C w w' S S' h k hC
  have hlt:=(vT.1 h.2).1
  exact⟨by rw [k.old l hlt (hC l rfl)];exact h.1,by rw [k.heap l hlt (hC l rfl)];exact h.2⟩
def BC(b:Nat):OE where
 fp:=fun k=>k=b
 p:=fun w S=>S b=none∧w.heap[b]? =some (.deferred (some []))
 here:=by
  intro w S h k hk
  subst hk
  exact(vT.1 h.2).1
 kept:=by
  intro C w w' S S' h k hC
  have hlt:=(vT.1 h.2).1
  exact⟨by rw [k.old b hlt (hC b rfl)];exact h.1,by rw [k.heap b hlt (hC b rfl)];exact h.2⟩
def xO(b:Nat):Deferred:={target:= .collected b,args:= #[]}

def Zc(P:Program){α σ:Type}(args:α→List Ty)(y:α→σ→Option (Bool×σ))(I:σ→OE→Prop)(yv:Value):Prop:=
 ∃l,yv= .func (.yield l) #[] #[]∧ ∀x s r,y x s=some r→ ∀e,I s e→ ∀w S vs,jy w S→e.p w S→w9 S (args x) vs→
  ∃f tmps assign body,(Instr.yield l vs.toArray).run P w= .ok (.round l f tmps assign body) w∧
   RoundIn (fw none) 0 P l f tmps assign body w fun en w' => ∃e' S',en= .returned (.bool r.1)∧I r.2 e' ∧fY e.fp w S w' S' ∧jy w' S' ∧e'.p w' S' ∧ ∀k,e'.fp k→e.fp k∨w.heap.size≤k
def Tb(P:Program){α:Type}(args:α→List Ty)(it:It α)(fid:FuncId)(cap:Array Value)(fp:Nat→Prop)(w:World)(S:SH):Prop:=
 ∀(σ:Type) (y:α→σ→Option (Bool×σ)) (s s' :σ),it σ y s=some s' → ∀I yv,Zc P args y I yv→ ∀e,I s e→e.p w S→(∀k,e.fp k→ ¬fp k)→
  Calls P fid (#[yv]++cap) w fun en w' => ∃e' S',(∃v,en= .returned v)∧I s' e' ∧fY (fun k=>e.fp k∨fp k) w S w' S' ∧jy w' S' ∧e'.p w' S' ∧ ∀k,e'.fp k→e.fp k∨w.heap.size≤k
def WF(P:Program){α:Type}(args:α→List Ty)(it:It α)(v:Value)(fp:Nat→Prop):OE where
 fp:=fp
 p:=fun w S=>(∀k,fp k→k<w.heap.size)∧ ∃fid cap,v= .func (.func fid) #[] cap∧ak P fid=true∧
  ∀C w' S',fY C w S w' S' →(∀k,fp k→ ¬C k)→jy w' S' →Tb P args it fid cap fp w' S'
 here:=fun h k hk=>h.1 k hk
 kept:=by
  rintro C w w' S S' ⟨h1,fid,cap,h2,h3,h4⟩ k hC
  refine⟨fun b hb=>xh (h1 b hb) k.size,fid,cap,h2,h3,fun C' w'' S'' k' hC' hs=>?_⟩;exact h4 (fun b=>C b∨C' b) w'' S'' ((k.more fun b hb=> .inl hb).trans (k'.more fun b hb=> .inr hb)) (fun b hb h=>h.elim (hC b hb) (hC' b hb)) hs

def Ax(P:Program)(fid:FuncId){α:Type}(args:α→List Ty)(it:It α)(O:List OE)(cts:List Ty):Prop:=
 ∀w S cap,jy w S→cJ 0 pT w S O→w9 S cts cap→Tb P args it fid cap.toArray (fun k=> ∃f∈O,f.fp k) w S
def YW(E:En){σ:Type}(I:σ→OE→Prop)(s:σ)(e0:OE):Ending→World→Prop:=fun en w' => ∃e' S',(∃v,en= .returned v)∧I s e' ∧fY E.B E.w0 E.S0 w' S' ∧jy w' S' ∧e'.p w' S' ∧ ∀k,e'.fp k→e0.fp k∨E.w0.heap.size≤k
variable{σ:Type}{I:σ→OE→Prop}{N:Nat}{S0:SH}{args:α→List Ty}{b:Nat}{c:Code}{cap:Nat}{cts:List Ty}{fn:Func}{it:It α}{s:σ}{w0:World}{y:α}
theorem Ax.of(hf:P.funcs[f]? =some fn)(hb:fn.body=some c)(hN:fn.ntmps=N)(hn:Nat.ble (cts.length+1) N=true)(h: ∀(σ:Type) (y:α→σ→Option (Bool×σ)) (s s' :σ),it σ y s=some s' → ∀I yv,Zc P args y I yv→ ∀e,I s e→ ∀w0 S0 B,(∀k,B k→e.fp k∨ ∃f∈O,f.fp k)→
   CG ⟨P,⟨N,[]⟩,B,w0,S0,none⟩ (bodyPost P fn (YW ⟨P,⟨N,[]⟩,B,w0,S0,none⟩ I s' e)) c (e::O) (tH 0 (tV yv::cts))):Ax P f args it O cts:=by
 subst hN
 intro w S cap hs ho hc σ y s s' hit I yv hy e he hep hap
 have hown:cJ w.heap.size (fun k=>e.fp k∨ ∃f∈O,f.fp k) w S (e::O):=
  ⟨⟨hep,fun k hk=> .inr (.inl hk)⟩,fun f hf b hb hfb=>hap b hb ⟨f,hf,hfb⟩,ku ho fun f hf k hk=> .inr (.inr ⟨f,hf,hk⟩)⟩
 have hfacts:=mT (S:=S) (ts:=tV yv::cts) (vs:=yv::cap) ⟨rfl,hc⟩ fn.ntmps (by simpa using pj hn)
 have:=jJ.1 (DZ (F:=fw none) (n:=0) hf hb trivial (h σ y s s' hit I yv hy e he w S (fun k=>e.fp k∨ ∃f∈O,f.fp k) (fun _ h=>h) _ w S ⟨fY.refl _ _ _,hs,hown,hfacts⟩))
 rw [show(#[yv]++cap.toArray:Array Value)=(yv::cap).toArray from by simp]
 exact this.mono fun en w' ⟨e',S',h1,h2,h3,h4,h5,h6⟩=>⟨e',S',h1,h2,h3,h4,h5,h6⟩
variable{after:Array Edge}{ats:Array TypeId}{ops:Array Oper}{pos:String}{x:Operand}
section
variable{ty:TypeId}
theorem Rj{e e' :OE}{O:List OE}(h:cJ base B w S (e::O))(k:fY e.fp w S w' S')(hp:e'.p w' S')(hn: ∀b,e'.fp b→e.fp b∨w.heap.size≤b)(hb:base≤w.heap.size):cJ base B w' S' (e' ::O):=
 ⟨⟨hp,fun b hb' =>(hn b hb').elim (fun h2=>h.1.2 b h2) (fun h2=> .inl (by omega))⟩,fun f hf b hb' hfb=>(hn b hb').elim (fun h2=>h.2.1 f hf b h2 hfb) (fun h2=>by
  have:=f.here (cJ.mem h.2.2 f hf).1 b hfb
  omega),h.2.2.ext k fun f hf b hb' h2=>h.2.1 f hf b h2 hb'⟩
theorem FL{y:α→σ→Option (Bool×σ)}{yv:Value}{x:α}{r:Bool×σ}{e:OE}{fo:Operand}{xs:List Operand}(hy:Zc E.P args y I yv)(he:I s e)(hq:y x s=some r)(hf:aI E.N G fo (tV yv))(hx:jK E.N G xs (args x))(hd:Nat.blt d E.N.n=true)(k: ∀e',I r.2 e' →RG E ops Q rest (e' ::O) ((d,tD rB r.1)::G)):RG E ops Q (⟨some d,.call ⟨.value fo,xs.toArray,ats⟩,ty,pos,after,none⟩::rest) (e::O) G:= .of rfl fun a w S st=>by
 obtain⟨l,rfl,hyl⟩:=hy
 have h1:a.eval fo= .func (.yield l) #[] #[]:=hf S a st.facts
 obtain⟨f,tmps,assign,body,h2,h3⟩:=hyl x s r hq e he w S _ st.sat st.own.1.1 (hx.tys st.facts)
 have hr:(execOp a.eval ⟨some d,.call ⟨.value fo,xs.toArray,ats⟩,ty,pos,after,none⟩).run E.P w= .ok (.round l f tmps assign body) w:=by
  simp [execOp,resolve,h1,Deferred.ofValue,invoke]
  simpa using h2
 refine⟨fun c h=>(by cases h),?_⟩
 rw [hr]
 refine h3.mono fun en w' ⟨e',S',h4,h5,h6,h7,h8,h9⟩=>⟨_,h4,?_⟩;exact k e' h5 _ _ S' ⟨st.ext.step h6 (fun b hb=>st.own.1.2 b hb),h7,Rj st.own h6 h8 h9 st.base_le,(st.facts.mono h6.keep).put hd (iO.2 rfl)⟩
end
def Hg:List OE→List OE→Prop
 |[],_=>True
 |f::O,g::O' =>(∀k,f.fp k→g.fp k)∧Hg O O'
 |_::_,[]=>False
variable{g:Option (Nat×Bool)}
theorem Hg.mem: ∀{O O' :List OE},Hg O O' → ∀k,(∃f∈O,f.fp k)→ ∃f∈O',f.fp k
 |f::O,g::O',⟨h1,h2⟩,k,⟨q,hq,hk⟩=>by
  rcases fk.1 hq with e|e
  ·subst e;exact⟨g,kO ..,h1 k hk⟩
  ·obtain⟨q',h3,h4⟩:=Hg.mem h2 k ⟨q,e,hk⟩
   exact⟨q',kN _ h3,h4⟩
theorem Jl{e0 e:OE}{O0:List OE}(hr:fn.results= #[])(he:I s e)(hB: ∀k,B k→e0.fp k∨ ∃f∈O0,f.fp k)(hO:Hg O0 O):
  AT ⟨P,⟨N,[]⟩,B,w0,S0,none⟩ (bodyPost P fn (YW ⟨P,⟨N,[]⟩,B,w0,S0,none⟩ I s e0)) .ret (e::O) G:=fun _ _ S st=>
 ⟨st.facts.defers,_,vg P fn hr _ _,e,S,⟨_,rfl⟩,he,st.ext,st.sat,st.own.1.1,fun k hk=>(st.own.1.2 k hk).elim .inr fun hb=>(hB k hb).elim .inl fun hx=>let⟨f,hf,hfk⟩:=hO.mem k hx;absurd hfk (st.own.2.1 f hf k hk)⟩
theorem LP{e0 e:OE}{O0:List OE}(hr:fn.results= #[])(he:I s e)(hB: ∀k,B k→e0.fp k∨ ∃f∈O0,f.fp k)(hO:Hg O0 O):
  AT ⟨P,⟨N,[]⟩,B,w0,S0,none⟩ (bodyPost P fn (YW ⟨P,⟨N,[]⟩,B,w0,S0,none⟩ I s e0)) .normal (e::O) G:=fun a w S st=>Jl hr he hB hO a w S st

variable{O1:List OE}{ι:Type}{O2:ι→List OE}
theorem nF: ∀{O1 O2:List OE},cJ base B w S (O1++O2)→cJ base B w S O1∧cJ base B w S O2∧ ∀e∈O1,∀f∈O2,e.apart f
 |[],_,h=>⟨trivial,h,fun _ h=>(by cases h)⟩
 |e::O1,O2,⟨h1,h2,h3⟩=>by
  obtain⟨k1,k2,k3⟩:=nF h3
  refine⟨⟨h1,fun f hf=>h2 f (GI _ hf),k1⟩,k2,fun g hg f hf=>?_⟩
  rcases fk.1 hg with rfl|hg
  ·exact h2 f (List.mem_append_right _ hf)
  ·exact k3 g hg f hf
theorem cJ.cons{e:OE}(h1:e.holds base B w S)(h2: ∀f∈O,e.apart f)(h3:cJ base B w S O):cJ base B w S (e::O):=⟨h1,h2,h3⟩

def Ap(P:Program)(f:FuncId)(ts:List Ty){α:Type}(args:α→List Ty)(it:It α):Prop:=
 ∀w S vs,jy w S→w9 S ts vs→Calls P f vs.toArray w fun e w' => ∃v fp S',e= .returned v∧fY pT w S w' S' ∧jy w' S' ∧(WF P args it v fp).holds w.heap.size pT w' S'
def WL(E:En){α:Type}(args:α→List Ty)(it:It α):Ending→World→Prop:=fun e w' => ∃v fp S',e= .returned v∧fY E.B E.w0 E.S0 w' S' ∧jy w' S' ∧(WF E.P args it v fp).holds E.w0.heap.size E.B w' S'
theorem Ap.of(hf:P.funcs[f]? =some fn)(hb:fn.body=some c)(hN:fn.ntmps=N)(hn:Nat.ble ts.length N=true)(h: ∀w0 S0,CG ⟨P,⟨N,[]⟩,pT,w0,S0,none⟩ (bodyPost P fn (WL ⟨P,⟨N,[]⟩,pT,w0,S0,none⟩ args it)) c [] (tH 0 ts)):Ap P f ts args it:=by
 subst hN
 intro w S vs hs hv
 exact jJ.1 (DZ (F:=fw none) (n:=0) hf hb trivial (h w S _ w S ⟨fY.refl _ _ _,hs,trivial,mT hv _ (pj hn)⟩))
section
theorem LN{k:Nat}{v:Value}{fp:Nat→Prop}(hr:fn.results= #[.tmp k])(hk:de G k=some (tV v)):
  AT ⟨P,⟨N,[]⟩,B,w0,S0,none⟩ (bodyPost P fn (WL ⟨P,⟨N,[]⟩,B,w0,S0,none⟩ args it)) .ret (WF P args it v fp::O) G:=fun a w S st=>by
 have hv:a.tmps.getD k undef=v:=st.facts.at_ k _ hk
 exact⟨st.facts.defers,_,m9 P fn k hr _ _,v,fp,S,by rw [hv],st.ext,st.sat,st.own.1⟩
section
variable{ty:TypeId}
theorem Hz{xs:List Operand}(hc:ak E.P f=true)(hs:Ap E.P f ts args it)(hx:jK E.N G xs ts)(hd:Nat.blt d E.N.n=true)(k: ∀v fp,RG E ops Q rest (WF E.P args it v fp::O) ((d,tV v)::G)):
  RG E ops Q (⟨some d,.call ⟨.value (.func f),xs.toArray,ats⟩,ty,pos,after,none⟩::rest) O G:= .of rfl fun a w S st=>by
 have hr:(execOp a.eval ⟨some d,.call ⟨.value (.func f),xs.toArray,ats⟩,ty,pos,after,none⟩).run E.P w= .ok (.enter f (xs.map a.eval).toArray) w:=by
  simp [execOp,resolve,Act.eval,Deferred.ofValue,invoke,ed hc]
 refine⟨fun c h=>(by cases h),?_⟩
 rw [hr]
 refine(hs w S _ st.sat (hx.tys st.facts)).mono fun e w' ⟨v,fp,S',he,h1,h2,h3⟩=>⟨_,he,?_⟩;exact k v fp _ _ S' ⟨st.ext.step0 h1,h2,qd st.own h1 h3.1 (fun b hb=>(h3.2 b hb).resolve_right id) st.base_le,(st.facts.mono h1.keep).put hd rfl⟩
theorem Dk{fid:FuncId}{O2:List OE}{caps:List Operand}(hO:O=O1++O2)(hc:ak E.P fid=true)(hs:Ax E.P fid args it O1 cts)(hcap:jK E.N G caps cts)(hd:Nat.blt d E.N.n=true)(k: ∀v fp,RG E ops Q rest (WF E.P args it v fp::O2) ((d,tV v)::G)):
  RG E ops Q (⟨some d,.makeFunc (.func fid) #[] caps.toArray,ty,pos,after,none⟩::rest) O G:= .of rfl fun a w S st=>by
 subst hO
 have hr:(execOp a.eval ⟨some d,.makeFunc (.func fid) #[] caps.toArray,ty,pos,after,none⟩).run E.P w= .ok (.value (.func (.func fid) #[] (caps.map a.eval).toArray)) w:=by simp [execOp,Instr.makeFunc]
 refine⟨fun c h=>(by cases h),?_⟩
 rw [hr]
 obtain⟨h1,h2,h3⟩:=nF st.own
 have hcv:=hcap.tys st.facts
 refine k (.func (.func fid) #[] (caps.map a.eval).toArray) (fun k=> ∃f∈O1,f.fp k) _ _ S ⟨st.ext,st.sat,?_,st.facts.put hd rfl⟩;refine cJ.cons ⟨⟨fun b ⟨f,hf,hb⟩=>f.here (cJ.mem h1 f hf).1 b hb,fid,_,rfl,hc,fun C w' S' he hC hs' =>?_⟩,fun b ⟨f,hf,hb⟩=>(cJ.mem h1 f hf).2 b hb⟩ (fun f hf b ⟨g,hg,hb⟩=>h3 g hg f hf b hb) h2;exact hs w' S' _ hs' (h1.weak.ext he fun f hf b hb=>hC b ⟨f,hf,hb⟩) (hcv.mono he.keep)
end
end

def G3:List Nat→List Ty→mu→mu
 |d::ds,t::ts,G=>G3 ds ts ((d,t)::G)
 |_,_,G=>G
theorem Ak{N:Fr}{S:SH}: ∀(ds:List Nat) (ts:List Ty) (vs:List Value) (a:Act) (G:mu),ds.length=ts.length→w9 S ts vs→(ds.all fun d=>Nat.blt d N.n)=true→cP N S a G→
  cP N S {tmps:=(ds.zip vs).foldl (fun t (p:Nat×Value)=>t.setIfInBounds p.1 p.2) a.tmps,defers:=a.defers} (G3 ds ts G)
 |[],_,_,_,_,hl,_,_,hF=>by
  cases uf hl.symm
  simpa [G3] using hF
 |d::ds,[],_,_,_,hl,_,_,_=>by simp at hl
 |d::ds,t::ts,[],_,_,_,hv,_,_=>hv.elim
 |d::ds,t::ts,v::vs,a,G,hl,⟨h1,h2⟩,hd,hF=>by
  simp only [zM,mi]at hd
  have:=Ak ds ts vs (a.put (some d) v) ((d,t)::G) (by simpa using hl) h2 hd.2 (hF.put hd.1 h1)
  simpa [G3,Act.put] using this
def XU(E:En)(l:Nat)(rec:Loop){σ ι:Type}(Oi:ι→List OE)(dat:ι→σ)(s2:σ):Ending→World→Prop:=fun en w' =>
 ∃i S',en= .returned (.bool true)∧dat i=s2∧fY E.B E.w0 E.S0 w' S' ∧jy w' S' ∧cJ E.base E.B w' S' (wg l rec .ready::Oi i)
def V9(E:En)(l:Nat)(body:Code)(R:Ending→World→Prop):Exit→Act→World→Prop:=
 Exit.then (fun a₁ w₁=> ∃w₂,(Instr.beginRound l).run E.P w₁= .ok () w₂∧body.wpIn (fw E.r) 0 E.P (roundPost E.P l R) a₁ w₂) (fun _ _ _=>False)
variable{rec:Loop}{x1 x2 x3:OE}
section
theorem Is{l:Nat}{st st' :LoopState}{O:List OE}(h:cJ base B w S (wg l rec st::O))(hs:jy w S):
  fY (fun k=>k=l) w S (w.putObj l (.loop {rec with state:=st',pending:=none})) S∧jy (w.putObj l (.loop {rec with state:=st',pending:=none})) S∧cJ base B (w.putObj l (.loop {rec with state:=st',pending:=none})) S (wg l rec st' ::O):=by
 obtain⟨hno,hl⟩:=h.1.1
 have hlt:=(vT.1 hl).1
 have hext:fY (fun k=>k=l) w S (w.putObj l (.loop {rec with state:=st',pending:=none})) S:=⟨rfl,rfl,rfl,dy _,by simp,fun k _ hk=>World.putObj_heap_other hk,SH.le_refl _,fun _ _ _=>rfl⟩
 refine⟨hext,hs.same fun k o hk=>?_,⟨⟨hno,World.putObj_heap_same hlt⟩,h.1.2⟩,h.2.1,h.2.2.ext hext fun g hg k hk hkl=>h.2.1 g hg k hkl hk⟩
 have hne:k≠l:=fun e=>by subst e;rw [hno]at hk;cases hk
 exact World.putObj_heap_other hne
theorem Tj{l:Nat}{body:Code}{R:Ending→World→Prop}(h:CG E (roundPost E.P l R) body (wg l rec .busy::O) G):AT E (V9 E l body R) .normal (wg l rec .ready::O) G:=fun a w S st=>by
 obtain⟨h1,h2,h3⟩:=Is (st' := .busy) st.own st.sat
 obtain⟨_,hl⟩:=st.own.1.1
 exact⟨_,run_beginRound hl rfl,h a _ S ⟨st.ext.step h1 (fun c hc=>st.own.1.2 c hc),h2,h3,st.facts⟩⟩
theorem LQ{l:Nat}{Oi:ι→List OE}{dat:ι→σ}{s2:σ}(i:ι)(hi:dat i=s2)(hO:O=Oi i):AT E (roundPost E.P l (XU E l rec Oi dat s2)) .normal (wg l rec .busy::O) G:=fun a w S st=>by
 subst hO
 obtain⟨h1,h2,h3⟩:=Is (st' := .ready) st.own st.sat
 obtain⟨_,hl⟩:=st.own.1.1
 exact⟨_,_,run_endRound none hl,i,S,rfl,hi,st.ext.step h1 (fun c hc=>st.own.1.2 c hc),h2,h3⟩
theorem wM{ps:Array Nat}{vs:List Value}{tmps:Array Value}:(ps.zip vs.toArray).foldl (fun t (p,v)=>t.setIfInBounds p v) tmps=(ps.toList.zip vs).foldl (fun t (p:Nat×Value)=>t.setIfInBounds p.1 p.2) tmps:=by
 rw [←Array.foldl_toList]
 simp
def Dh{α σ:Type}(f:α→σ→Option σ):α→σ→Option (Bool×σ):=fun x s=>(f x s).map fun s' =>(true,s')
theorem QE{v:Value}{fp:Nat→Prop}(Oi:ι→List OE)(dat:ι→σ){f:α→σ→Option σ}{s' :σ}{g:Operand}{ps:List Nat}{assign body:Code}(hr:E.r=none)(hg:aI E.N G g (tV v))(i0:ι)(hO:O=WF E.P args it v fp::Oi i0)(hit:it σ (Dh f) (dat i0)=some s')(hps: ∀x,ps.length=(args x).length)(hpn:(ps.all fun d=>Nat.blt d E.N.n)=true)(hbody: ∀(i:ι) (x:α) (s2:σ),f x (dat i)=some s2→ ∀(l:Nat) (rec:Loop) (w1:World) (S1:SH) (B1:Nat→Prop),
   CG ⟨E.P,⟨E.N.n,[]⟩,B1,w1,S1,some l⟩ (V9 ⟨E.P,⟨E.N.n,[]⟩,B1,w1,S1,some l⟩ l body (XU ⟨E.P,⟨E.N.n,[]⟩,B1,w1,S1,some l⟩ l rec Oi dat s2)) assign (wg l rec .ready::Oi i) (G3 ps (args x) G))(k: ∀i',dat i' =s' → ∀b,AT ⟨E.P,⟨E.N.n,xO b::E.N.ds⟩,E.B,E.w0,E.S0,E.r⟩ Q .normal (BC b::Oi i') G):CG E Q (.rangeFunc g ps.toArray assign body) O G:=fun a w S st=>by
 subst hO
 refine wpIn_rangeFunc fun fn _=>?_
 have hr0:(fw E.r).round=none:=hr
 have hfw:fw E.r=fw none:=by rw [hr]
 rw [hr0]
 obtain⟨rec,hrec⟩: ∃rec:Loop,rec={state:= .ready,pending:=none,fn,tmps:=a.tmps,params:=ps.toArray,assign,body,defers:=w.heap.size}:=⟨_,rfl⟩
 obtain⟨x1,x2,x3⟩:=fX (w:=w) (.deferred (some [])) st.sat
 obtain⟨y1,y2,y3⟩:=fX (w:=w.alloc (.deferred (some []))) (.loop rec) x2
 obtain⟨W1,hW1⟩: ∃W1,(w.alloc (.deferred (some []))).alloc (.loop rec)=W1:=⟨_,rfl⟩
 rw [hW1]at y1 y2
 have hsz:(w.alloc (.deferred (some []))).heap.size=w.heap.size+1:=by simp
 rw [hsz]at y3
 have hext:fY pT w S W1 S:=x1.trans y1
 have hL1:W1.heap[w.heap.size+1]? =some (.loop rec):=by
  rw [←hW1];have:=World.alloc_heap_new (w.alloc (.deferred (some []))) (.loop rec);rwa [hsz]at this
 have hK1:W1.heap[w.heap.size]? =some (.deferred (some [])):=by
  rw [y1.heap w.heap.size (by omega) (fun h=>h)];exact World.alloc_heap_new w _
 have hW1s:W1.heap.size=w.heap.size+2:=by rw [←hW1];simp
 have hg' :a.eval g=v:=hg S a st.facts
 obtain⟨hit1,hap,hoi⟩:=st.own
 obtain⟨⟨hfp,gf,cap,hv,hcal,hcall⟩,hbase⟩:=hit1
 have hbl:=st.base_le
 have hoi1:cJ E.base E.B W1 S (Oi i0):=hoi.ext0 hext
 have hlt: ∀f∈Oi i0,∀k,f.fp k→k<w.heap.size:=fun f hf k hk=>f.here (cJ.mem hoi f hf).1 k hk
 refine⟨w.heap.size+1,[xO w.heap.size],W1,{target:= .fn (.func gf) cap,args:= #[.func (.yield (w.heap.size+1)) #[] #[]]},W1,gf,
  #[.func (.yield (w.heap.size+1)) #[] #[]]++cap,W1,?_,?_,fun _ _=>trivial,?_,fun h=>(by cases h),?_⟩
 ·rw [←hW1,hrec];exact run_enterLoop_outer _ _ _ _ _
 ·simp only [resolve,hg',hv]
  simp [go_sem]
 ·simp [invoke,go_sem,ed hcal]
 rw [hfw]
 refine jJ.2 ?_
 have hyld:Zc E.P args (Dh f) (fun s e=> ∃i,dat i=s∧e=qA S (wg (w.heap.size+1) rec .ready::Oi i)) (.func (.yield (w.heap.size+1)) #[] #[]):=by
  refine⟨_,rfl,?_⟩
  rintro x s r hy e ⟨i,rfl,rfl⟩ w2 S2 vs hs2 ⟨hle,hown⟩ hvs
  obtain⟨s2,hs2',rfl⟩: ∃s2,f x (dat i)=some s2∧r=(true,s2):=by
   unfold Dh at hy
   cases hf:f x (dat i)with
   |none=>rw [hf]at hy;cases hy
   |some s2=>rw [hf]at hy;exact⟨s2,rfl,by simpa using hy.symm⟩
  have hl2:=hown.1.1.2
  have hvl:=hvs.length
  have hyr:=run_yield (P:=E.P) (args:=vs.toArray) hl2 (by rw [hrec];simp [hps x,hvl])
  refine⟨_,_,_,_,hyr,roundIn_of_wpIn trivial ?_⟩
  have:=hbody i x s2 hs2' (w.heap.size+1) rec w2 S2 (fun k=> ∃f∈wg (w.heap.size+1) rec .ready::Oi i,f.fp k)
   {tmps:=(ps.zip vs).foldl (fun t (p:Nat×Value)=>t.setIfInBounds p.1 p.2) a.tmps,defers:=[]} w2 S2
   ⟨fY.refl _ _ _,hs2,ku hown fun f hf k hk=> .inr ⟨f,hf,hk⟩,Ak ps (args x) vs ⟨a.tmps,[]⟩ G (hps x) hvs hpn ⟨st.facts.size,rfl,fun j t h=>t.mono hle (st.facts.at_ j t h)⟩⟩
  rw [hrec]
  rw [hrec]at this
  rw [wM]
  refine wpIn_mono this ?_
  intro e a3 w3 hp
  cases e with
  |normal=>
   obtain⟨w4,hb4,hp4⟩:=hp
   refine⟨w4,hb4,wpIn_mono hp4 ?_⟩
   have hR: ∀en w',XU ⟨E.P,⟨E.N.n,[]⟩,fun k=> ∃f∈wg (w.heap.size+1) rec .ready::Oi i,f.fp k,w2,S2,some (w.heap.size+1)⟩ (w.heap.size+1) rec Oi dat s2 en w' →
     ∃e' S',en= .returned (.bool true)∧(∃i',dat i' =s2∧e' =qA S (wg (w.heap.size+1) rec .ready::Oi i'))∧fY (qA S (wg (w.heap.size+1) rec .ready::Oi i)).fp w2 S2 w' S' ∧jy w' S' ∧e'.p w' S' ∧ ∀k,e'.fp k→(qA S (wg (w.heap.size+1) rec .ready::Oi i)).fp k∨w2.heap.size≤k:=by
    rintro en w' ⟨i',S',h1,h2,h3,h4,h5⟩
    exact⟨_,S',h1,⟨i',h2,rfl⟩,h3,h4,⟨SH.le_trans hle h3.keep,h5.weak⟩,fun k ⟨f,hf,hk⟩=>((cJ.mem h5 f hf).2 k hk).symm⟩
   rw [hrec]at hR
   intro e5 a5 w5 hp5
   cases e5<;>simp only [roundPost]at hp5 ⊢
   case normal=>obtain⟨v5,w6,h1,h2⟩:=hp5;exact⟨v5,w6,h1,hR _ _ h2⟩
   case ret=>obtain⟨v5,w6,h1,h2⟩:=hp5;exact⟨v5,w6,h1,hR _ _ h2⟩
   case exit=>obtain⟨v5,w6,h1,h2⟩:=hp5;exact⟨v5,w6,h1,hR _ _ h2⟩
   case goto=>obtain⟨v5,w6,h1,h2⟩:=hp5;exact⟨v5,w6,h1,hR _ _ h2⟩
  |_=>exact hp
 have hrecE:W1.heap[w.heap.size+1]? =some (.loop {rec with state:= .ready,pending:=none}):=by rw [hL1,hrec]
 have he0:(qA S (wg (w.heap.size+1) rec .ready::Oi i0)).p W1 S:=⟨SH.le_refl _,⟨⟨y3,hrecE⟩,fun _ _=> .inl (lF _)⟩,fun f hf k hk hfk=>by have:=hlt f hf k hfk;have hk' :k=w.heap.size+1:=hk;omega,hoi1.weak⟩
 have hap0: ∀k,(qA S (wg (w.heap.size+1) rec .ready::Oi i0)).fp k→ ¬fp k:=by
  rintro k ⟨f,hf,hk⟩ hfk
  rcases fk.1 hf with rfl|hf
  ·have:=hfp k hfk;have hk' :k=w.heap.size+1:=hk;omega
  ·exact hap f hf k hfk hk
 refine(hcall pT W1 S hext (fun _ _ h=>h) y2 σ (Dh f) (dat i0) s' hit _ _ hyld _ ⟨i0,rfl,rfl⟩ he0 hap0).mono ?_
 rintro en w2 ⟨e',S2,⟨vr,rfl⟩,⟨i',hi',rfl⟩,hx2,hs2,⟨hle2,hown2⟩,hnew⟩
 have hl2:=hown2.1.1.2
 refine⟨none,_,run_endLoop hl2 (by simp),?_⟩
 have hb2:cJ E.base E.B w2 S2 (wg (w.heap.size+1) rec .ready::Oi i'):=by
  refine ku hown2 fun f hf k hk=>?_
  rcases hnew k ⟨f,hf,hk⟩with⟨f0,hf0,hk0⟩|h
  ·rcases fk.1 hf0 with rfl|hf0
   ·left;have hk' :k=w.heap.size+1:=hk0;omega
   ·exact(cJ.mem hoi f0 hf0).2 k hk0
  ·left;omega
 obtain⟨z1,z2,z3⟩:=Is (st' := .exhausted) hb2 hs2
 have hdf:(BC w.heap.size).p W1 S:=⟨x3,hK1⟩
 have hnb: ∀k,(BC w.heap.size).fp k→ ¬((qA S (wg (w.heap.size+1) rec .ready::Oi i0)).fp k∨fp k):=by
  rintro k hk h
  have hk' :k=w.heap.size:=hk
  subst hk'
  rcases h with⟨f,hf,hfk⟩|h
  ·rcases fk.1 hf with rfl|hf
   ·have hk' :w.heap.size=w.heap.size+1:=hfk;omega
   ·have:=hlt f hf _ hfk;omega
  ·have:=hfp _ h;omega
 have sd:(BC w.heap.size).p w2 S2:=(BC w.heap.size).kept hdf hx2 hnb
 have hd3:=(BC w.heap.size).kept sd z1 (fun k hk hkl=>by have h1:k=w.heap.size:=hk;have h2:k=w.heap.size+1:=hkl;omega)
 have hBin: ∀k,((qA S (wg (w.heap.size+1) rec .ready::Oi i0)).fp k∨fp k)→E.w0.heap.size≤k∨E.B k:=by
  rintro k (⟨f,hf,hk⟩|h)
  ·rcases fk.1 hf with rfl|hf
   ·left;have hk' :k=w.heap.size+1:=hk;have:E.w0.heap.size≤w.heap.size:=hbl;omega
   ·exact(cJ.mem hoi f hf).2 k hk
  ·exact hbase k h
 refine k i' hi' w.heap.size _ _ S2 ⟨((st.ext.step0 hext).step hx2 hBin).step z1 (fun c hc=>z3.1.2 c hc),z2,?_,?_⟩
 ·refine cJ.cons ⟨hd3,fun k hk=> .inl (by have h1:k=w.heap.size:=hk;rw [h1];exact hbl)⟩ (fun f hf k hk hfk=>?_) z3.2.2
  have h1:k=w.heap.size:=hk
  rcases hnew k ⟨f,kN _ hf,hfk⟩with h2|h2
  ·exact hnb k hk (.inl h2)
  ·omega
 ·refine⟨st.facts.size,?_,fun j t hj=>t.mono (SH.le_trans (SH.le_refl S) hle2) (st.facts.at_ j t hj)⟩
  show xO w.heap.size::a.defers=_
  rw [st.facts.defers]
end

section
variable{R:Ending→World→Prop}{ds:List Deferred}
theorem rP(h:AT ⟨P,⟨N,[]⟩,B,w0,S0,none⟩ (bodyPost P fn R) .ret O G):AT ⟨P,⟨N,[]⟩,B,w0,S0,none⟩ (bodyPostM (fw none) 0 P fn R) .ret O G:=fun a w S st=>by
 obtain⟨h1,v,h2,h3⟩:=h a w S st
 show LeavesInM (fw none) 0 P fn a.tmps R a.defers .returning w
 rw [h1]
 exact⟨v,h2,h3⟩
theorem BS(h:AT ⟨P,⟨N,ds⟩,B,w0,S0,none⟩ (bodyPostM (fw none) 0 P fn R) .ret O G):AT ⟨P,⟨N,xO b::ds⟩,B,w0,S0,none⟩ (bodyPostM (fw none) 0 P fn R) .ret (BC b::O) G:=fun a w S st=>by
 show LeavesInM (fw none) 0 P fn a.tmps R a.defers .returning w
 rw [st.facts.defers]
 obtain⟨hno,hb⟩:=st.own.1.1
 have hlt:=(vT.1 hb).1
 have hext:fY (fun k=>k=b) w S (w.putObj b (.deferred none)) S:=⟨rfl,rfl,rfl,dy _,by simp,fun k _ hk=>World.putObj_heap_other hk,SH.le_refl _,fun _ _ _=>rfl⟩
 have hsat:jy (w.putObj b (.deferred none)) S:=st.sat.same fun k o hk=>by
  have hne:k≠b:=fun e=>by subst e;rw [hno]at hk;cases hk
  exact World.putObj_heap_other hne
 have:=h {a with defers:=ds} (w.putObj b (.deferred none)) S ⟨st.ext.step hext (fun c hc=>st.own.1.2 c hc),hsat,st.own.2.2.ext hext (fun g hg k hk hkb=>st.own.2.1 g hg k hkb hk),⟨st.facts.size,rfl,st.facts.at_⟩⟩
 exact⟨by simp,.inl ⟨b,_,rfl,run_takeDeferred hb,this⟩⟩
end
theorem Lu{t:Ty}(hf:P.funcs[f]? =some fn)(hb:fn.body=some c)(hN:fn.ntmps=N)(hn:Nat.ble ts.length N=true)(h: ∀w0 S0,CG ⟨P,⟨N,[]⟩,pT,w0,S0,none⟩ (bodyPostM (fw none) 0 P fn (Nk ⟨P,⟨N,[]⟩,pT,w0,S0,none⟩ t)) c [] (tH 0 ts)):aX P f ts t:=by
 subst hN
 intro w S vs hs hv
 exact jJ.1 (callsIn_of_wp_marks (F:=fw none) (n:=0) hf hb trivial (h w S _ w S ⟨fY.refl _ _ _,hs,trivial,mT hv _ (pj hn)⟩))

def rT(t:Ty):Rp Unit where
 sz:=1
 agg:=false
 rc:=fun S cs _=> ∃v,cs=[v]∧v.oneCell' =true∧t.p S v
 mono:=fun h ⟨v,e,k,l⟩=>⟨v,e,k,t.mono h l⟩
 len:=fun⟨_,e,_⟩=>by rw [e];rfl
 one:=fun⟨v,e,k,_⟩ c hc=>by rw [e]at hc;simp at hc;subst hc;exact k
 sc:=fun _=>rfl
theorem tRT{t:Ty}{u:Unit}{v:Value}:(tD (rT t) u).p S v↔v.oneCell' =true∧t.p S v:=by
 constructor
 ·rintro⟨cs,rfl,w,rfl,h1,h2⟩;exact⟨h1,h2⟩
 ·rintro⟨h1,h2⟩;exact⟨[v],rfl,v,rfl,h1,h2⟩
variable{T U:TypeId}{agg:Bool}{bytes:Nat}{dst:Option Tmp}{get:α→β}{k' :IntKind}{lo:Int}{off sz:Nat}{ys:List α}{z:List Value}
section
variable{ty:TypeId}
theorem bS.imp{t u:Ty}(h:bS E O G o t)(k: ∀S v,t.p S v→u.p S v):bS E O G o u:=fun a w S hs ho hf=>
 oE (fun _ _ ⟨v,S',h1,h2,h3,h4⟩=>⟨v,S',h1,h2,h3,k S' v h4⟩) (h a w S hs ho hf)
theorem DE{res:β→Ty}{f:α→Option β}(hx:aI E.N G x (dX E.P args res f)):bS E O G ⟨dst,.box T x,ty,pos,after,g⟩ (bK (rT (dX E.P args res f)) ()):=
 MK (fun S a hf=>tRT.2 ⟨by obtain⟨_,_,e,_⟩:=hx S a hf;rw [e];rfl,hx S a hf⟩)
theorem vn{t:Ty}{p:Operand}(ti:TI E.P U 1 bytes false z)(hp:aI E.N G p (bK (rT t) ())):bS E O G ⟨dst,.load U p,ty,pos,after,g⟩ t:=
 (bO (r:=rT t) (x:=()) ti rfl rfl hp).imp fun _ _ h=>(tRT.1 h).2

theorem ES:rV.rc S [.slice none 0 0] (aR none 0 0):=⟨rfl,rfl⟩
theorem PZ{N:Fr}(h:aI N G x (tV (aR l cap n))):aI N G x (tD rV (aR l cap n)):=fun S a hf=>vW.2 ⟨h S a hf,by cases l<;>rfl⟩
theorem gY{p:Operand}(ti:TI E.P U 1 bytes false z)(hm:bx rV T b (aR l cap n)∈O)(hp:aI E.N G p (tV (aN b 0))):
  bS E O G ⟨dst,.load U p,ty,pos,after,g⟩ (tV (aR l cap n)):=(cg (q:=rV) (get:=fun x=>x) ti rfl rfl bT hm hp).imp fun _ _ h=>(vW.1 h).1

def dA{α:Type}(xs:List α)(lo hi:Int):Option (List α):=if 0≤lo∧lo≤hi∧hi≤(xs.length:Int)then some ((xs.take hi.toNat).drop lo.toNat)else none
theorem gV(h:dA xs lo hi=some ys): ∃l m:Nat,lo=l∧hi=m∧l≤m∧m≤xs.length∧ys=(xs.take m).drop l:=by
 unfold dA at h
 split at h
 ·rename_i hc
  exact⟨lo.toNat,hi.toNat,by omega,by omega,by omega,by omega,by simpa using h.symm⟩
 ·cases h
theorem Er{a:Option Addr}{l:Nat}(h:JO r S a xs)(hl:l≤m)(hm:m≤xs.length)(hc:xs.length≤cap):
  JO r S (if cap=l then a else a.map (·.add (l*r.sz))) ((xs.take m).drop l):=by
 by_cases hlm:l=m
 ·left;subst hlm;simp
 right
 rcases h with h|⟨b,off,c,T,fr,e1,e2,e3⟩
 ·subst h;simp at hm;omega
 subst e1
 have hne: ¬(cap=l):=by omega
 refine⟨b,off+l*r.sz,c,T,fr,?_,e2,?_⟩
 ·rw [aL hne];simp [Addr.add]
 have hlen:((xs.take m).drop l).length=m-l:=by simp;omega
 have e4:xs=(xs.take m).take l++((xs.take m).drop l++xs.drop m):=by
  rw [←jG,vR,vR]
 have h1:((xs.take m).take l).length=l:=by simp;omega
 rw [e4]at e3
 have h2:=(qK e3).2
 have h3:=(qK h2).1
 rw [h1]at h3
 rw [hlen]at h3 ⊢
 rw [←e4]at h3
 rw [AJ,BV,pV]at h3
 have hmin:min ((m-l)*r.sz) (xs.length*r.sz-l*r.sz)=(m-l)*r.sz:=by
  rw [←Nat.sub_mul];exact xk (BY _ (by omega))
 rwa [hmin]at h3
theorem lP{n:Int}{y:Nat}{code:BoundsCode}(h0:0≤n)(h1:n≤y):(Instr.sliceBound (.int k n) y code).run P w= .ok n.toNat w:=by
 simp [Instr.sliceBound,asIntOf,h0,h1]
theorem MG{hi:Operand}(ht:E.P.underlying t=some (.slice T))(ti:TI E.P T sz bytes agg z)(hsz:r.sz=sz)(hx:aI E.N G x (tD (fV r) xs))(hhi:aI E.N G hi (tD (rI k') j))(h:dA xs 0 j=some ys):bS E O G ⟨dst,.slice t x none (some hi) none,ty,pos,after,g⟩ (tD (fV r) ys):=
 .of_pure fun a w S _ _ hf=>by
  subst hsz
  obtain⟨ad,cap,h1,h2,h3,h4⟩:=pc.1 (hx S a hf)
  have h6:=cZ.1 (hhi S a hf)
  obtain⟨l,m,hl,rfl,h7,h8,rfl⟩:=gV h
  have hl0:l=0:=by omega
  subst hl0
  have hlen:((xs.take m).drop 0).length=m-0:=by simp;omega
  refine⟨.slice (if cap=0 then ad else ad.map (·.add (0*r.sz))) (m-0) (cap-0),?_,pc.2 ⟨_,cap-0,by rw [hlen],by omega,by omega,Er h4 h7 h8 h2⟩⟩
  simp [execOp,Instr.sliceAt,h1,h6,Instr.slice,lG ht,Instr.sliceBounds,lP (k:=k') (n:=(m:Int)) (y:=cap) (by omega) (by omega),ti.sizeOf]
theorem MF{lo:Operand}{i:Int}(ht:E.P.underlying t=some (.slice T))(ti:TI E.P T sz bytes agg z)(hsz:r.sz=sz)(hx:aI E.N G x (tD (fV r) xs))(hlo:aI E.N G lo (tD (rI k) i))(h:dA xs i (xs.length:Int)=some ys):bS E O G ⟨dst,.slice t x (some lo) none none,ty,pos,after,g⟩ (tD (fV r) ys):=
 .of_pure fun a w S _ _ hf=>by
  subst hsz
  obtain⟨ad,cap,h1,h2,h3,h4⟩:=pc.1 (hx S a hf)
  have h5:=cZ.1 (hlo S a hf)
  obtain⟨l,m,rfl,hm,h7,h8,rfl⟩:=gV h
  have hm' :m=xs.length:=by omega
  subst hm'
  have hlen:((xs.take xs.length).drop l).length=xs.length-l:=by simp
  refine⟨.slice (if cap=l then ad else ad.map (·.add (l*r.sz))) (xs.length-l) (cap-l),?_,pc.2 ⟨_,cap-l,by rw [hlen],by omega,by omega,Er h4 h7 h8 h2⟩⟩
  simp [execOp,Instr.sliceAt,h1,h5,Instr.slice,lG ht,Instr.sliceBounds,lP (k:=k) (n:=(l:Int)) (y:=xs.length) (by omega) (by omega),ti.sizeOf]
end
theorem qw{id:Nat}(m:Nat)(hm:E.P.follows .mixedOrders=true)(hsl:vZ E.N.n [] (L.take m)=true)(hlen:ts.length=(L.take m).length)(ht:zl L (L.take m).length (L.drop m).length=true)(hd:DR E O G L ts 0 (L.take m))(k:RG E L.toArray Q (L.drop m) O (MB (L.take m) ts G)):CG E Q (.region id L.toArray true) O G:=Th (vR m L).symm hm hsl hlen ht hd k

def rN(P:Program){α:Type} [DecidableEq α](t:TypeId)(r:Rp α)(n:Nat):Prop:=
 ∀(S:SH) (cs ds:List Value) (x y:α) (d:Nat) (w:World),r.rc S cs x→r.rc S ds y→(Op.equalIn (d+n) t (r.val cs) (r.val ds)).run P w= .ok (decide (x=y)) w
theorem DP(h:P.underlying t=some (.int k')):rN P t (rI k) (n+1):=fun S cs ds x y d w hx hy=>by
 have h1:cs=[.int k x]:=hx
 have h2:ds=[.int k y]:=hy
 subst h1 h2
 have:(Op.equalIn (d+n+1) t (.int k x) (.int k y)).run P w= .ok (x==y) w:=by simp [Op.equalIn,lG h]
 have e:(x==y)=decide (x=y):=by by_cases h:x=y<;>simp [h]
 rw [e]at this
 exact this
theorem VV(h:P.underlying t=some .string):rN P t rS (n+1):=fun S cs ds x y d w hx hy=>by
 have h1:cs=[.string ⟨x.toArray⟩]:=hx
 have h2:ds=[.string ⟨y.toArray⟩]:=hy
 subst h1 h2
 have:=run_equalIn_string (P:=P) w (d+n) t ⟨x.toArray⟩ ⟨y.toArray⟩ h
 simp only [Rp.val,rS,List.headD_cons,fL,d7]
 rw [show d+(n+1)=d+n+1 from rfl,this]
 simp only [ByteArray.toList_eq]
 by_cases e:x=y<;>simp [e]
abbrev Fd:=TypeId×Nat×Bool
def MY(f:Field):Fd:=(f.type,f.offset,f.name== "_")
def Qg(d:Nat)(xs ys:Array Value):List Fd→Sem Bool
 |[]=>pure true
 |f::fs=>
  if f.2.2=false then do
   let a←part f.1 xs f.2.1
   let b←part f.1 ys f.2.1
   let r←Op.equalIn d f.1 a b
   if(!r)=true then pure false else Qg d xs ys fs
  else Qg d xs ys fs
theorem Lg(d:Nat)(xs ys:Array Value): ∀fs:List Field,Op.eqFields d xs ys fs=Qg d xs ys (fs.map MY)
 |[]=>rfl
 |f::fs=>by
  unfold Op.eqFields Qg
  rw [Lg d xs ys fs]
  by_cases h:f.name= "_"
  ·have e:((MY f).2.2=false)=False:=by simp [MY,h]
   simp only [AB,e,d7]
   rw [aL (by simpa using h)]
  ·have e:((MY f).2.2=false)=True:=by simp [MY,h]
   simp only [AB,e,ep]
   rw [aY (by simpa using h)]
   rfl
def Te(P:Program){α:Type}(r:Rp α)(n:Nat)(fs:List Fd)(c:α→α→Bool):Prop:=
 ∀(S:SH) (cs ds:List Value) (x y:α) (d:Nat) (w:World),r.rc S cs x→r.rc S ds y→(Qg (d+n) cs.toArray ds.toArray fs).run P w= .ok (c x y) w
theorem Te.nil:Te P r n [] (fun _ _=>true):=fun _ _ _ _ _ _ _ _ _=>rfl
theorem sq(ti:TI P t sz bytes agg z)(hsz:q.sz=sz)(hag:q.agg=agg)(hf:qu r off q get){cs:List Value}{x:α}(hx:r.rc S cs x)(w:World):
  (part t cs.toArray off).run P w= .ok (q.val ((cs.drop off).take q.sz)) w:=by
 have h:=hf S cs x hx
 have hl:=q.len h
 subst hsz hag
 unfold part
 by_cases ha:q.agg=true
 ·have e1:=ti.isAgg w
  simp only [vJ,e1,ha,xe,ep,ti.sizeOf,Sem.run_pure]
  unfold Rp.val
  rw [aY ha]
  congr 2
  apply Array.ext'
  simp
 ·rw [xd]at ha
  have e1:=ti.isAgg w
  have hs1:=q.sc ha
  simp only [vJ,e1,ha,xe,fL,d7]
  rw [hs1]at hl ⊢
  obtain⟨v,hv⟩:=List.length_eq_one_iff.1 hl
  have hc:cs[off]? =some v:=by
   have:((cs.drop off).take 1)[0]? =some v:=by rw [hv];rfl
   rw [BZ (by omega),wU]at this
   simpa using this
  unfold Rp.val
  rw [hv,ha]
  simp [hc]
theorem Te.cons [DecidableEq β]{t:Nat}{fs:List Fd}{c:α→α→Bool}(ti:TI P t sz bytes agg z)(hsz:q.sz=sz)(hag:q.agg=agg)(hf:qu r off q get)(he:rN P t q n)(hr:Te P r n fs c):
  Te P r n ((t,off,false)::fs) (fun x y=>decide (get x=get y)&&c x y):=fun S cs ds x y d w hx hy=>by
 have h1:=sq ti hsz hag hf hx w
 have h2:=sq ti hsz hag hf hy w
 have h3:=he S _ _ _ _ d w (hf S cs x hx) (hf S ds y hy)
 unfold Qg
 simp only [ep,vJ,h1,h2,h3,xe]
 by_cases e:get x=get y
 ·simp only [e,AH,mw,fL,d7,uM]
  exact hr S cs ds x y d w hx hy
 ·simp [e]
theorem Ni [DecidableEq α]{t:Nat}{fs:List Fd}{c:α→α→Bool}(ht:(P.underlying t).map (fun d=>match d with| .struct l=>(true,l.toList.map MY)|_=>(false,[]))=some (true,fs))(hp:P.stoodInHeld t=false)(ha:r.agg=true)(hr:Te P r n fs c)(hc: ∀x y,c x y=decide (x=y)):rN P t r (n+1):=fun S cs ds x y d w hx hy=>by
 obtain⟨l,h1,h2⟩: ∃l,P.underlying t=some (.struct l)∧l.toList.map MY=fs:=by
  cases hu:P.underlying t with
  |none=>rw [hu]at ht;cases ht
  |some d=>
   rw [hu]at ht
   cases d<;>simp at ht
   exact⟨_,rfl,ht⟩
 have hfo:P.fieldsOf t=l:=by unfold Program.fieldsOf;rw [h1]
 have:=run_equalIn_struct (P:=P) w (d+n) t cs.toArray ds.toArray (by rw [hfo];exact h1) hp
 rw [sj ha,sj ha,show d+(n+1)=d+n+1 from rfl,this,hfo,Lg,h2,hr S cs ds x y d w hx hy,hc]
theorem vH [DecidableEq α](h:rN P t r n)(m:Nat):rN P t r (m+n):=fun S cs ds x y d w hx hy=>by
 have:=h S cs ds x y (d+m) w hx hy
 rwa [Nat.add_assoc]at this
theorem Xl.of [DecidableEq α](hg:P.eqGuardType P.depth t=false)(h:rN P t r 20):Xl P t r:=⟨hg,fun S cs ds x y d w hx hy=>h S cs ds x y d w hx hy⟩

theorem di{l:List α}{e:α}(h:xs.drop i=e::l):decide ((i:Int)<(xs.length:Int))=true:=by
 have:i<xs.length:=by
  rcases m8 i xs.length with h' |h'
  ·exact h'
  ·rw [AG h']at h;cases h
 simp;omega
theorem du(h:xs.drop i=[]):decide ((i:Int)<(xs.length:Int))=false:=by
 have:=F3.1 h
 simp;omega
theorem cL{l:List α}{e:α}(h:xs.drop i=e::l):xs.drop (i+1)=l:=by
 rw [←pV,h];rfl
theorem da{l:List α}{e:α}(h:xs.drop i=e::l):cN xs (i:Int)=some e:=by
 rw [bW]
 have:=wU (xs:=xs) (i:=i) (j:=0)
 rw [h]at this
 simpa using this.symm
theorem cM{l:List α}{e:α}(h:xs.drop i=e::l)(hN:xs.length≤maxLen):i<9223372036854775807:=by
 have:=Js (di h)
 simp only [maxLen]at hN
 omega
theorem X7{k:Nat}(h:N-i=k+1):decide ((i:Int)<(N:Int))=true:=by simp;omega
theorem X8(h:N-i=0):decide ((i:Int)<(N:Int))=false:=by simp;omega
theorem Ru{k:Nat}(h:N-i=k+1):N-(i+1)=k:=by omega
theorem Rv{k:Nat}(h:N-i=k+1)(hN:N≤9223372036854775807):i<9223372036854775807:=by omega
theorem Ue(h:n≤maxLen):n≤9223372036854775807:=by simp only [maxLen]at h;omega
variable{ix:Operand}{mm:Bool}{zs:List α}
section
variable{e:Exit}
section
variable{ty:TypeId}
theorem yE{one:Operand}{xt yt:TypeId}(hi:i<9223372036854775807)(hx:aI E.N G x (tD (rI .i64) (i:Int)))(h1:aI E.N G one (tD (rI .i64) 1)):
  bS E O G ⟨dst,.binOp .add xt x one yt,ty,pos,after,g⟩ (tD (rI .i64) ((i+1:Nat):Int)):=by
 have e:IntKind.i64.wrap ((i:Int)+1)=((i+1:Nat):Int):=by
  rw [vN];omega
 have:=oa (E:=E) (O:=O) (dst:=dst) (ty:=ty) (pos:=pos) (after:=after) (g:=g) (xt:=xt) (yt:=yt) hx h1
 rwa [e]at this
end
theorem oN(hm:mj mm r T l cap xs∈O)(h:xs.length≤maxLen→CG E Q c O G):CG E Q c O G:=fun a w S st=>by
 refine h ?_ a w S st
 obtain⟨cells,h1,_⟩:=(st.own.mem _ hm).1
 cases l with
 |none=>have:=h1.1;omega
 |some b=>obtain⟨cur,_,g2,g3,_⟩:=h1;exact zf g2 g3
theorem St.dataAt{k:Nat}(h:St E O G a w S)(hk:de G k=some (tO r l cap xs)):St E O ((k,tD (fV r) xs)::G) a w S:=h.cons (h.facts.at_ k _ hk).2
theorem jE(k:Nat)(hk:de G k=some (tO r l cap xs))(h:AT E Q e O ((k,tD (fV r) xs)::G)):AT E Q e O G:=fun a w S st=>h a w S (st.dataAt hk)
def pU(l:Option Nat)(off:Nat):Value:=
 match l with
 |none=> .pointer none
 |some b=>aN b off
theorem vl(h:Cz mm r T l cap xs w S){e:α}(hi:xs[i]? =some e):
  ∃b cur,l=some b∧w.heap[b]? =some (.cells cur T (0,0))∧xs.length≤cap∧cur.size=cap*r.sz∧r.rc S ((cur.toList.drop (i*r.sz)).take r.sz) e:=by
 obtain⟨cells,h1,h2,_⟩:=h
 have hlt:=(jM.1 hi).1
 cases l with
 |none=>have:=h1.1;omega
 |some b=>
  obtain⟨cur,g1,g2,g3,g4,g5⟩:=h1
  refine⟨b,cur,rfl,g1,g2,g4,?_⟩
  have h3:=A8 h2 hi
  rw [←g5,AJ,BV]at h3
  have h4:i*r.sz+r.sz≤xs.length*r.sz:=by
   rw [←Nat.succ_mul];exact BY _ hlt
  rwa [xk (by omega)]at h3
theorem lW{i:Int}{e:α}(h:cN xs i=some e):0≤i∧xs[i.toNat]? =some e:=by
 unfold cN at h
 split at h
 ·exact⟨by assumption,h⟩
 ·cases h
section
variable{ty:TypeId}
theorem cK{e:TypeId}{i:Int}(ht:E.P.underlying t=some (.slice e))(ti:TI E.P e sz bytes agg z)(hm:mj mm r U l cap xs∈O)(hx:aI E.N G x (tV (aR l cap n)))(hi:aI E.N G ix (tD (rI k) i))(hy:cN xs i=some y)(hn:n=xs.length:=by rfl):
  bS E O G ⟨dst,.indexAddr t x ix,ty,pos,after,g⟩ (tV (pU l (i.toNat*sz+0))):=
 .of_pure fun a w S _ ho hf=>by
  subst hn
  have h1:a.eval x=aR l cap xs.length:=hx S a hf
  have h3:a.eval ix= .int k i:=cZ.1 (hi S a hf)
  obtain⟨h0,hy'⟩:=lW hy
  obtain⟨b,cur,rfl,_⟩:=vl (ho.mem _ hm).1 hy'
  have hlt:i.toNat<xs.length:=(jM.1 hy').1
  refine⟨_,?_,rfl⟩
  have hc:0≤i∧i<(xs.length:Int):=⟨h0,by omega⟩
  simp [execOp,h1,h3,aR,Instr.indexAt,asIntOf,lG ht,hc,ti.sizeOf,jT,pU,aN]
theorem gq{foff:Nat}{i:Int}{p:Operand}(ti:TI E.P T sz bytes agg z)(hsz:q.sz=sz)(hag:q.agg=agg)(hget:qu r foff q get)(hoff:Nat.ble (foff+q.sz) r.sz=true)(hm:mj mm r U l cap xs∈O)(hy:cN xs i=some y)(hp:aI E.N G p (tV (pU l (i.toNat*r.sz+foff)))):bS E O G ⟨dst,.load T p,ty,pos,after,g⟩ (tD q (get y)):=
 .of_pure fun a w S _ ho hf=>by
  have h1:a.eval p=pU l (i.toNat*r.sz+foff):=hp S a hf
  obtain⟨h0,hy'⟩:=lW hy
  obtain⟨b,cur,rfl,hb,_,_,h6⟩:=vl (ho.mem _ hm).1 hy'
  have hoff' :=pj hoff
  have h7:=hget S _ _ h6
  rw [AJ,BV,pV,xk (by omega)]at h7
  refine⟨_,?_,_,rfl,h7⟩
  simp [execOp,h1,pU,aN,Instr.loadAt,Instr.sureAddr,lQ ti hb hsz hag h7]
theorem Gn{o:Nat}{p:Operand}(hf:cR E.P T i=some (off,sz))(h0:Nat.beq sz 0=false)(hm:mj mm r U l cap xs∈O)(hy:cN xs j=some y)(hp:aI E.N G p (tV (pU l o))):
  bS E O G ⟨dst,.fieldAddr T p i,ty,pos,after,g⟩ (tV (pU l (o+off))):=
 .of_pure fun a w S _ ho hF=>by
  have h1:a.eval p=pU l o:=hp S a hF
  obtain⟨_,hy'⟩:=lW hy
  obtain⟨b,cur,rfl,_⟩:=vl (ho.mem _ hm).1 hy'
  obtain⟨fs,f,e1,e2,e3,e4⟩:=B9 hf
  have h0' :sz≠0:=fun e=>by subst e;simp at h0
  refine⟨_,?_,rfl⟩
  simp [execOp,h1,pU,aN,Instr.fieldAt,lG e1,e2,Instr.sureAddr,fieldPlace,e4,h0',e3,jT]
end
theorem Io{α:Type}{r:Rp α}{S:SH}{y:α}{c:List Value}(hc:r.rc S c y): ∀{xs:List α} {i:Nat} {cs:List Value},uT r S cs xs→i<xs.length→uT r S (cs.take (i*r.sz)++c++cs.drop (i*r.sz+r.sz)) (xs.set i y)
 |[],_,_,_,h=>by simp at h
 |x::xs,0,cs,⟨a,b,e,h1,h2⟩,_=>by
  have hl:=r.len h1
  refine⟨c,b,?_,hc,h2⟩
  rw [e,←hl];simp
 |x::xs,i+1,cs,⟨a,b,e,h1,h2⟩,h=>by
  have hl:=r.len h1
  have ih:=Io hc h2 (i:=i) (by simpa using h)
  refine⟨a,_,?_,h1,ih⟩
  have e1:(i+1)*r.sz=a.length+i*r.sz:=by rw [hl,uL];omega
  rw [e,e1,List.take_length_add_append,Nat.add_assoc,List.drop_length_add_append]
  simp
theorem sW{set:α→β→α}{foff:Nat}{v:β}{i:Int}{p:Operand}{ty:TypeId}(ti:TI E.P T sz bytes agg z)(hsz:q.sz=sz)(hset:jU r foff q set)(hoff:Nat.ble (foff+q.sz) r.sz=true)(hy:cN xs i=some y)(hz:xs.set i.toNat (set y v)=zs)(hp:aI E.N G p (tV (pU l (i.toNat*r.sz+foff))))(hx:aI E.N G x (tD q v))(k:RG E ops Q rest (fj r U l cap zs::O) G):
  RG E ops Q (⟨none,.store T p x,ty,pos,after,none⟩::rest) (fj r U l cap xs::O) G:= .of rfl fun a w S st=>by
 subst hz
 have h1:a.eval p=pU l (i.toNat*r.sz+foff):=hp S a st.facts
 obtain⟨ds,h2,h3⟩:=hx S a st.facts
 obtain⟨h0,hy'⟩:=lW hy
 have hlt:i.toNat<xs.length:=(jM.1 hy').1
 obtain⟨cells,hraw,hrc,hno⟩:=st.own.1.1
 obtain⟨b,cur,rfl,hb,hle,hcs,h6⟩:=vl st.own.1.1 hy'
 obtain⟨cur',hb',hle',hmax,hcs',hct⟩:=hraw
 have hcc:cur' =cur:=by rw [hb]at hb';injection hb' with e;injection e with e1;exact e1.symm
 subst hcc
 have hno' :S b=none:=hno b rfl
 have hoff' :=pj hoff
 have hl3:=q.len h3
 have hmul:i.toNat*r.sz+r.sz≤xs.length*r.sz:=by rw [←Nat.succ_mul];exact BY _ hlt
 have hmul2:xs.length*r.sz≤cur'.size:=by rw [hcs];exact BY _ hle
 obtain⟨w',hr,e1,e2,e3,e4,e5,e6⟩:=kS ti hsz h3 hb (off:=i.toNat*r.sz+foff) (by omega)
 have hrun:(execOp a.eval ⟨none,.store T p x,ty,pos,after,none⟩).run E.P w= .ok .skip w' :=by
  simp [execOp,h1,h2,Instr.storeAt,pU,aN,Instr.sureAddr,hr]
 refine⟨fun c h=>(by cases h),?_⟩
 rw [hrun]
 have hnew:=hset S _ _ _ _ h6 h3
 have hrc' :=Io hnew hrc hlt
 have hcl:=pf hrc
 have hcells:(cur'.toList.take (i.toNat*r.sz+foff)++ds++cur'.toList.drop (i.toNat*r.sz+foff+q.sz)).take (xs.length*r.sz)=
   cells.take (i.toNat*r.sz)++(((cur'.toList.drop (i.toNat*r.sz)).take r.sz).take foff++ds++((cur'.toList.drop (i.toNat*r.sz)).take r.sz).drop (foff+q.sz))++cells.drop (i.toNat*r.sz+r.sz):=by
  subst hct
  apply Jr
  intro j
  simp only [List.getElem?_take,List.getElem?_append,wU,CN,D2,iI,D3]
  rcases m8 j (xs.length*r.sz)with hj|hj
  ·simp only [hj,ep]
   rcases m8 j (i.toNat*r.sz)with hj1|hj1
   ·rw [aY (by omega),aY (by omega),aY (by omega),aY (by omega),aY (by omega),aY (by omega)]
   ·rcases m8 j (i.toNat*r.sz+foff)with hj2|hj2
    ·rw [aY (by omega),aY (by omega),aY (by omega),aY (by omega),aL (by omega),aY (by omega),aY (by omega),aY (by omega),aY (by omega)]
     congr 1;omega
    ·rcases m8 j (i.toNat*r.sz+foff+q.sz)with hj3|hj3
     ·rw [aY (by omega),aL (by omega),aY (by omega),aL (by omega),aY (by omega),aL (by omega)]
      congr 1;omega
     ·rw [aL (by omega)]
      rcases m8 j (i.toNat*r.sz+r.sz)with hj4|hj4
      ·rw [aY (by omega),aL (by omega),aL (by omega),aY (by omega)]
       congr 1;omega
      ·rw [aL (by omega),aY (by omega)]
       congr 1;omega
  ·rw [aL (by omega),aL (by omega),aL (by omega)]
 obtain⟨g1,g2,g3⟩:=qL (O:=O) st.sat (fj r U (some b) cap xs) (fj r U (some b) cap (xs.set i.toNat (set y v))) st.own (fun k=>⟨fun h=>(pR h).symm,fun h=>by rw [h];rfl⟩) (fun k=>⟨fun h=>(pR h).symm,fun h=>by rw [h];rfl⟩) ⟨e1,e2,e3,e4.1,e4.2⟩ e6
  ⟨_,⟨_,e5,by rw [List.length_set];exact hle,hmax,by simp only [GE,iI,CN,D2,D3];omega,by rw [List.length_set];exact hcells⟩,hrc',fun k hk=>by rw [←pR hk];exact hno'⟩ hno'
 exact k _ _ S ⟨st.ext.step g1 (fun c hc=>st.own.1.2 c (by rw [hc];rfl)),g2,g3,st.facts⟩

def oP(sz:Nat)(l:Option Nat)(cap lo n:Nat):Value:=
 match l with
 |none=> .slice none 0 0
 |some b=> .slice (some ⟨b,if cap=lo then 0 else lo*sz,none⟩) n (cap-lo)
section
variable{ty:TypeId}
theorem G4(h:Cz mm r U l cap xs w S): ∃ad c,aR l cap xs.length= .slice ad xs.length c∧xs.length≤c∧ad=l.map (fun b=>⟨b,0,none⟩)∧(l=none→c=0∧xs=[])∧(l≠none→c=cap):=by
 obtain⟨cells,h1,_⟩:=h
 cases l with
 |none=>
  have hx:xs=[]:=uf h1.1
  subst hx
  exact⟨none,0,rfl,dy _,rfl,fun _=>⟨rfl,rfl⟩,fun h=>absurd rfl h⟩
 |some b=>
  obtain⟨cur,_,g2,_⟩:=h1
  exact⟨_,cap,rfl,g2,rfl,fun h=>(by cases h),fun _=>rfl⟩
theorem lh{hi:Operand}(ht:E.P.underlying t=some (.slice T))(ti:TI E.P T sz bytes agg z)(hsz:r.sz=sz)(hm:mj mm r U l cap xs∈O)(hx:aI E.N G x (tV (aR l cap n)))(hhi:aI E.N G hi (tD (rI k') j))(h:dA xs 0 j=some ys)(hn:n=xs.length:=by rfl):bS E O G ⟨dst,.slice t x none (some hi) none,ty,pos,after,g⟩ (tV (aR l cap ys.length)):=
 .of_pure fun a w S _ ho hf=>by
  subst hsz
  subst hn
  have h1:a.eval x=aR l cap xs.length:=hx S a hf
  obtain⟨ad,c,h2,h3,h4,h5,h5'⟩:=G4 (ho.mem _ hm).1
  have h6:=cZ.1 (hhi S a hf)
  obtain⟨lo,m,hl,rfl,h7,h8,rfl⟩:=gV h
  have hl0:lo=0:=by omega
  subst hl0
  have hlen:((xs.take m).drop 0).length=m:=by simp;omega
  refine⟨_,?_,rfl⟩
  rw [h2]at h1
  have hr:(execOp a.eval ⟨dst,.slice t x none (some hi) none,ty,pos,after,g⟩).run E.P w= .ok (.value (.slice ad m c)) w:=by
   simp [execOp,Instr.sliceAt,h1,h6,Instr.slice,lG ht,Instr.sliceBounds,lP (k:=k') (n:=(m:Int)) (y:=c) (by omega) (by omega),ti.sizeOf]
   cases ad<;>simp [Addr.add]
  rw [hr,hlen,h4]
  cases l with
  |none=>
   obtain⟨rfl,rfl⟩:=h5 rfl
   have:m=0:=by simpa using h8
   subst this;rfl
  |some b=>rw [h5' (by simp)];rfl
theorem n8{lo:Operand}{i:Int}(ht:E.P.underlying t=some (.slice T))(ti:TI E.P T sz bytes agg z)(hsz:r.sz=sz)(hm:mj mm r U l cap xs∈O)(hx:aI E.N G x (tV (aR l cap n)))(hlo:aI E.N G lo (tD (rI k) i))(h:dA xs i (xs.length:Int)=some ys)(hn:n=xs.length:=by rfl):bS E O G ⟨dst,.slice t x (some lo) none none,ty,pos,after,g⟩ (tV (oP sz l cap i.toNat ys.length)):=
 .of_pure fun a w S _ ho hf=>by
  subst hsz
  subst hn
  have h1:a.eval x=aR l cap xs.length:=hx S a hf
  obtain⟨ad,c,h2,h3,h4,h5,h5'⟩:=G4 (ho.mem _ hm).1
  have h6:=cZ.1 (hlo S a hf)
  obtain⟨lo',m,rfl,hm',h7,h8,rfl⟩:=gV h
  have hm2:m=xs.length:=by omega
  subst hm2
  have hlen:((xs.take xs.length).drop lo').length=xs.length-lo' :=by simp
  refine⟨_,?_,rfl⟩
  rw [h2]at h1
  have hr:(execOp a.eval ⟨dst,.slice t x (some lo) none none,ty,pos,after,g⟩).run E.P w= .ok (.value (.slice (if c=lo' then ad else ad.map (·.add (lo' *r.sz))) (xs.length-lo') (c-lo'))) w:=by
   simp [execOp,Instr.sliceAt,h1,h6,Instr.slice,lG ht,Instr.sliceBounds,lP (k:=k) (n:=(lo' :Int)) (y:=xs.length) (by omega) (by omega),ti.sizeOf]
  rw [hr,hlen,h4]
  cases l with
  |none=>
   obtain⟨rfl,rfl⟩:=h5 rfl
   have:lo' =0:=by simpa using h7
   subst this;rfl
  |some b=>
   rw [h5' (by simp)]
   unfold oP
   simp only [AE,Option.map_some,jT,uc]
   split<;>rfl
theorem Ep{i:Int}(h:dA xs lo hi=some ys)(hy:cN ys i=some y):cN xs (lo+i)=some y∧0≤lo∧0≤i:=by
 obtain⟨l,m,rfl,rfl,h1,h2,rfl⟩:=gV h
 obtain⟨h0,h3⟩:=lW hy
 refine⟨?_,by omega,h0⟩
 obtain⟨j,rfl⟩: ∃j:Nat,i=j:=⟨i.toNat,by omega⟩
 rw [show((l:Int)+(j:Int))=((l+j:Nat):Int)from by omega,bW]
 rw [wU,AE]at h3
 have hlt:l+j<m:=by
  have:=(jM.1 h3).1
  simp at this;omega
 rwa [BZ hlt]at h3
theorem Gl{e:TypeId}{i:Int}(ht:E.P.underlying t=some (.slice e))(ti:TI E.P e sz bytes agg z)(hsz:r.sz=sz)(hm:mj mm r U l cap xs∈O)(hs:dA xs lo hi=some ys)(hx:aI E.N G x (tV (oP sz l cap lo.toNat ys.length)))(hi' :aI E.N G ix (tD (rI k) i))(hy:cN ys i=some y):
  bS E O G ⟨dst,.indexAddr t x ix,ty,pos,after,g⟩ (tV (pU l ((lo+i).toNat*sz+0))):=
 .of_pure fun a w S _ ho hf=>by
  subst hsz
  have h1:a.eval x=oP r.sz l cap lo.toNat ys.length:=hx S a hf
  have h3:a.eval ix= .int k i:=cZ.1 (hi' S a hf)
  obtain⟨hxi,hl0,hi0⟩:=Ep hs hy
  obtain⟨_,hx'⟩:=lW hxi
  obtain⟨b,cur,rfl,_,hle,_⟩:=vl (ho.mem _ hm).1 hx'
  have hlt:i.toNat<ys.length:=(jM.1 (lW hy).2).1
  have hlt2:(lo+i).toNat<xs.length:=(jM.1 hx').1
  have hne: ¬(cap=lo.toNat):=by omega
  refine⟨_,?_,rfl⟩
  have hc:0≤i∧i<(ys.length:Int):=⟨hi0,by omega⟩
  have e1:(lo+i).toNat=lo.toNat+i.toNat:=by omega
  simp [execOp,h1,h3,oP,hne,Instr.indexAt,asIntOf,lG ht,hc,ti.sizeOf,jT,pU,aN,e1,uL]
theorem T7{e:TypeId}(ht:E.P.underlying t=some (.slice e))(hm:mj mm r U l cap xs∈O)(hs:dA xs lo hi=some ys)(hx:aI E.N G x (tV (oP sz l cap lo.toNat ys.length))):
  bS E O G ⟨dst,.call ⟨.builtin .len,#[x],#[t]⟩,ty,pos,after,g⟩ (tD (rI .i64) (ys.length:Int)):=
 .of_pure fun a w S _ ho hf=>by
  have h1:a.eval x=oP sz l cap lo.toNat ys.length:=hx S a hf
  obtain⟨ad,c,h3⟩: ∃ad c,oP sz l cap lo.toNat ys.length= .slice ad ys.length c:=by
   cases l with
   |none=>
    obtain⟨_,h2,_⟩:=(ho.mem _ hm).1
    have hx0:xs=[]:=uf h2.1
    subst hx0
    obtain⟨l',m,_,_,_,h8,rfl⟩:=gV hs
    exact⟨none,0,by simp [oP]⟩
   |some b=>exact⟨_,_,rfl⟩
  refine⟨.int .i64 ys.length,?_,cZ.2 rfl⟩
  simp [execOp,resolve,invoke,builtin,Builtin.len_,lG ht,h1,h3,goInt]
end
theorem Wb(h:dA xs 0 j=some ys)(k:Cz false r U l cap xs w S):Cz false r U l cap ys w S:=by
 obtain⟨lo,m,hl,rfl,h7,h8,rfl⟩:=gV h
 have hl0:lo=0:=by omega
 subst hl0
 obtain⟨cells,h1,h2,h3⟩:=k
 have hlen:((xs.take m).drop 0).length=m:=by simp;omega
 have h4:uT r S (cells.take (m*r.sz)) (xs.take m):=by
  have e:xs=xs.take m++xs.drop m:=(vR _ _).symm
  rw [e]at h2
  have:=(qK h2).1
  rwa [show(xs.take m).length=m from by simp;omega]at this
 refine⟨cells.take (m*r.sz),?_,by simpa using h4,fun b hb=>h3 b hb⟩
 rw [hlen]
 cases l with
 |none=>
  obtain⟨g1,g2⟩:=h1
  exact⟨by omega,by rw [g2];simp⟩
 |some b=>
  obtain⟨cur,g1,g2,g3,g4,g5⟩:=h1
  exact⟨cur,g1,by omega,g3,g4,by rw [←g5,BV,xk (BY _ h8)]⟩
theorem St.cut(h:dA xs 0 j=some ys)(st:St E (fj r U l cap xs::O) G a w S):St E (fj r U l cap ys::O) G a w S:=
 st.own_map fun ho=>⟨⟨Wb h ho.1.1,ho.1.2⟩,ho.2.1,ho.2.2⟩
theorem wD(h:dA xs 0 j=some ys)(k:RG E ops Q rest (fj r U l cap ys::O) G):RG E ops Q rest (fj r U l cap xs::O) G:=fun a w S st=>k a w S (st.cut h)
end

variable{x0 x4 x5 x6 x7 x8 x9:OE}
section
variable{e:Exit}
theorem Av{O:List OE}(h:cJ base B w S (x0::x1::x2::x3::x4::x5::O)):cJ base B w S (x5::x0::x1::x2::x3::x4::O):=
 (rM h t6 (fun f hf=>by simp only [fk]at hf ⊢;rcases hf with h|h|h|h|h|h<;>simp [h])).swap
theorem Hx(h:RG E ops Q rest (x5::x0::x1::x2::x3::x4::O) G):RG E ops Q rest (x0::x1::x2::x3::x4::x5::O) G:=fun a w S st=>h a w S (st.own_map Av)
theorem HK(h:AT E Q e (x5::x0::x1::x2::x3::x4::O) G):AT E Q e (x0::x1::x2::x3::x4::x5::O) G:=fun a w S st=>h a w S (st.own_map Av)
theorem tZ{O:List OE}(h:cJ base B w S (x0::x1::x2::x3::x4::x5::x6::O)):cJ base B w S (x6::x0::x1::x2::x3::x4::x5::O):=
 (rM h Av (fun f hf=>by simp only [fk]at hf ⊢;rcases hf with h|h|h|h|h|h|h<;>simp [h])).swap
theorem yU(h:RG E ops Q rest (x6::x0::x1::x2::x3::x4::x5::O) G):RG E ops Q rest (x0::x1::x2::x3::x4::x5::x6::O) G:=fun a w S st=>h a w S (st.own_map tZ)
theorem vI(h:AT E Q e (x6::x0::x1::x2::x3::x4::x5::O) G):AT E Q e (x0::x1::x2::x3::x4::x5::x6::O) G:=fun a w S st=>h a w S (st.own_map tZ)
theorem HC(h:LG E Q c (x6::x0::x1::x2::x3::x4::x5::O) G):LG E Q c (x0::x1::x2::x3::x4::x5::x6::O) G:=fun a w S st=>h a w S (st.own_map tZ)
theorem tY{O:List OE}(h:cJ base B w S (x0::x1::x2::x3::x4::x5::x6::x7::O)):cJ base B w S (x7::x0::x1::x2::x3::x4::x5::x6::O):=
 (rM h tZ (fun f hf=>by simp only [fk]at hf ⊢;rcases hf with h|h|h|h|h|h|h|h<;>simp [h])).swap
theorem Qw(h:RG E ops Q rest (x7::x0::x1::x2::x3::x4::x5::x6::O) G):RG E ops Q rest (x0::x1::x2::x3::x4::x5::x6::x7::O) G:=fun a w S st=>h a w S (st.own_map tY)
theorem QH(h:AT E Q e (x7::x0::x1::x2::x3::x4::x5::x6::O) G):AT E Q e (x0::x1::x2::x3::x4::x5::x6::x7::O) G:=fun a w S st=>h a w S (st.own_map tY)
theorem HB(h:LG E Q c (x7::x0::x1::x2::x3::x4::x5::x6::O) G):LG E Q c (x0::x1::x2::x3::x4::x5::x6::x7::O) G:=fun a w S st=>h a w S (st.own_map tY)
theorem Au{O:List OE}(h:cJ base B w S (x0::x1::x2::x3::x4::x5::x6::x7::x8::O)):cJ base B w S (x8::x0::x1::x2::x3::x4::x5::x6::x7::O):=
 (rM h tY (fun f hf=>by simp only [fk]at hf ⊢;rcases hf with h|h|h|h|h|h|h|h|h<;>simp [h])).swap
theorem HJ(h:AT E Q e (x8::x0::x1::x2::x3::x4::x5::x6::x7::O) G):AT E Q e (x0::x1::x2::x3::x4::x5::x6::x7::x8::O) G:=fun a w S st=>h a w S (st.own_map Au)
theorem Qz(h:LG E Q c (x8::x0::x1::x2::x3::x4::x5::x6::x7::O) G):LG E Q c (x0::x1::x2::x3::x4::x5::x6::x7::x8::O) G:=fun a w S st=>h a w S (st.own_map Au)
theorem FP{O:List OE}(h:cJ base B w S (x0::x1::x2::x3::x4::x5::x6::x7::x8::x9::O)):cJ base B w S (x9::x0::x1::x2::x3::x4::x5::x6::x7::x8::O):=
 (rM h Au (fun f hf=>by simp only [fk]at hf ⊢;rcases hf with h|h|h|h|h|h|h|h|h|h<;>simp [h])).swap
theorem ek(h:AT E Q e (x9::x0::x1::x2::x3::x4::x5::x6::x7::x8::O) G):AT E Q e (x0::x1::x2::x3::x4::x5::x6::x7::x8::x9::O) G:=fun a w S st=>h a w S (st.own_map FP)
theorem yW(h:LG E Q c (x9::x0::x1::x2::x3::x4::x5::x6::x7::x8::O) G):LG E Q c (x0::x1::x2::x3::x4::x5::x6::x7::x8::x9::O) G:=fun a w S st=>h a w S (st.own_map FP)
end

theorem mE(h:xs.set i y=zs):zs.length=xs.length:=by rw [←h,List.length_set]
section
theorem iH(hl:m=n)(s:Nat)(hs:de G s=some (tV (aR l cap n)))(k:RG E ops Q rest O ((s,tV (aR l cap m))::G)):RG E ops Q rest O G:=by
 subst hl
 exact fun a w S st=>k a w S (st.cons (st.facts.at_ s _ hs))
end

theorem vw{s:Rp γ}{o1 o2:Nat}{g1:α→β}{g2:β→γ}(h1:qu r o1 q g1)(h2:qu q o2 s g2)(hb:Nat.ble (o2+s.sz) q.sz=true:=by rfl):qu r (o1+o2) s (fun x=>g2 (g1 x)):=fun S cs x h=>by
 have h3:=h2 S _ _ (h1 S cs x h)
 have hb' :=pj hb
 rwa [AJ,BV,pV,xk (by omega)]at h3
theorem GW{s:Rp γ}{o1 o2:Nat}{g1:α→β}{u1:α→β→α}{u2:β→γ→β}(h1:qu r o1 q g1)(k1:jU r o1 q u1)(k2:jU q o2 s u2)(hb:Nat.ble (o2+s.sz) q.sz=true:=by rfl)(hc:Nat.ble (o1+q.sz) r.sz=true:=by rfl):
  jU r (o1+o2) s (fun x y=>u1 x (u2 (g1 x) y)):=fun S cs x ds y h hy=>by
 have hb' :=pj hb
 have hc' :=pj hc
 have hl:=r.len h
 have h3:=k1 S cs x _ _ h (k2 S _ _ ds y (h1 S cs x h) hy)
 have e:cs.take (o1+o2)++ds++cs.drop (o1+o2+s.sz)=cs.take o1++(((cs.drop o1).take q.sz).take o2++ds++((cs.drop o1).take q.sz).drop (o2+s.sz))++cs.drop (o1+q.sz):=by
  rw [BV,xk (by omega),AJ,pV,List.take_add,show o1+(o2+s.sz)=o1+o2+s.sz from by omega]
  simp only [jG]
  congr 3
  have e2:cs.drop (o1+q.sz)=(cs.drop (o1+o2+s.sz)).drop (q.sz-(o2+s.sz)):=by rw [pV];congr 1;omega
  rw [e2,vR]
 rw [e];exact h3

def cX(P:Program)(f:FuncId)(ts:List Ty)(O1:List OE){ι:Type}(t:ι→Ty)(O2:ι→List OE):Prop:=
 ∀w S vs,jy w S→w9 S ts vs→cJ 0 pT w S O1→Calls P f vs.toArray w fun en w' => ∃i v S',en= .returned v∧(t i).p S' v∧fY (fun k=> ∃f∈O1,f.fp k) w S w' S' ∧jy w' S' ∧cJ 0 pT w' S' (O2 i)∧ ∀k,(∃f∈O2 i,f.fp k)→(∃f∈O1,f.fp k)∨w.heap.size≤k
def Sp(E:En)(O1:List OE){ι:Type}(t:ι→Ty)(O2:ι→List OE):Ending→World→Prop:=fun en w' =>
 ∃i v S',en= .returned v∧(t i).p S' v∧fY E.B E.w0 E.S0 w' S' ∧jy w' S' ∧cJ 0 pT w' S' (O2 i)∧ ∀k,(∃f∈O2 i,f.fp k)→(∃f∈O1,f.fp k)∨E.w0.heap.size≤k
def Af(O1:List OE):Nat→Prop:=fun k=> ∃f∈O1,f.fp k
theorem cX.of{t:ι→Ty}(hf:P.funcs[f]? =some fn)(hb:fn.body=some c)(hN:fn.ntmps=N)(hn:Nat.ble ts.length N=true)(h: ∀w0 S0,CG ⟨P,⟨N,[]⟩,Af O1,w0,S0,none⟩ (bodyPost P fn (Sp ⟨P,⟨N,[]⟩,Af O1,w0,S0,none⟩ O1 t O2)) c O1 (tH 0 ts)):cX P f ts O1 t O2:=by
 subst hN
 intro w S vs hs hv ho
 exact jJ.1 (DZ (F:=fw none) (n:=0) hf hb trivial (h w S _ w S ⟨fY.refl _ _ _,hs,ku ho fun f hf k hk=> .inr ⟨f,hf,hk⟩,mT hv _ (pj hn)⟩))
theorem OY{t:ι→Ty}{v:Value}(st:St E O G a w S)(hB:E.B=Af O1)(i:ι)(hO:O=O2 i)(hv:(t i).p S v):Sp E O1 t O2 (.returned v) w:=by
 subst hO
 refine⟨i,v,S,rfl,hv,st.ext,st.sat,st.own.weak,fun k ⟨f,hf,hk⟩=>?_⟩
 rcases(cJ.mem st.own f hf).2 k hk with h|h
 ·exact .inr h
 ·rw [hB]at h;exact .inl h
section
variable{t:ι→Ty}
theorem nk{k:Nat}{u:Ty}(hr:fn.results= #[.tmp k])(i:ι)(hO:O=O2 i)(hk:de G k=some u)(hu: ∀S v,u.p S v→(t i).p S v):
  AT ⟨P,⟨N,[]⟩,Af O1,w0,S0,none⟩ (bodyPost P fn (Sp ⟨P,⟨N,[]⟩,Af O1,w0,S0,none⟩ O1 t O2)) .ret O G:=fun _ _ S st=>
 ⟨st.facts.defers,_,m9 P fn k hr _ _,OY st rfl i hO (hu S _ (st.facts.at_ k u hk))⟩
end
theorem BQ: ∀{O1 O2:List OE},cJ base B w S O1→cJ base B w S O2→(∀e∈O1,∀f∈O2,e.apart f)→cJ base B w S (O1++O2)
 |[],_,_,h,_=>h
 |e::O1,O2,⟨h1,h2,h3⟩,h,ha=>⟨h1,fun f hf=>(vM.1 hf).elim (h2 f) (ha e (kO ..) f),BQ h3 h fun g hg f hf=>ha g (kN _ hg) f hf⟩
section
variable{ty:TypeId}
theorem St.turn{Or O2:List OE}(st:St E (O1++Or) G a w S)(hx:fY (fun k=> ∃f∈O1,f.fp k) w S w' S')(hs:jy w' S')(ho:cJ 0 pT w' S' O2)(hn: ∀k,(∃f∈O2,f.fp k)→(∃f∈O1,f.fp k)∨w.heap.size≤k):St E (O2++Or) G a w' S' :=by
 obtain⟨h1,h2,h3⟩:=nF st.own
 have hbl:=st.base_le
 refine⟨st.ext.step hx (fun b ⟨f,hf,hb⟩=>(cJ.mem h1 f hf).2 b hb),hs,BQ (ku ho fun f hf k hk=>?_) (h2.ext hx fun f hf b hb ⟨g,hg,hgb⟩=>h3 g hg f hf b hgb hb) (fun e he f hf b heb hfb=>?_),st.facts.mono hx.keep⟩
 ·rcases hn k ⟨f,hf,hk⟩with⟨g,hg,hgk⟩|h
  ·exact(cJ.mem h1 g hg).2 k hgk
  ·exact .inl (zf hbl h)
 ·rcases hn b ⟨e,he,heb⟩with⟨g,hg,hgb⟩|h
  ·exact h3 g hg f hf b hgb hfb
  ·have:=f.here (cJ.mem h2 f hf).1 b hfb
   omega
theorem BO{xs:List Operand}(O1 Or:List OE){t:ι→Ty}(hO:O=O1++Or)(hc:ak E.P f=true)(hs:cX E.P f ts O1 t O2)(hx:jK E.N G xs ts)(hd:Nat.blt d E.N.n=true)(k: ∀i,RG E ops Q rest (O2 i++Or) ((d,t i)::G)):
  RG E ops Q (⟨some d,.call ⟨.value (.func f),xs.toArray,ats⟩,ty,pos,after,none⟩::rest) O G:= .of rfl fun a w S st=>by
 subst hO
 have hr:(execOp a.eval ⟨some d,.call ⟨.value (.func f),xs.toArray,ats⟩,ty,pos,after,none⟩).run E.P w= .ok (.enter f (xs.map a.eval).toArray) w:=by
  simp [execOp,resolve,Act.eval,Deferred.ofValue,invoke,ed hc]
 refine⟨fun c h=>(by cases h),?_⟩
 rw [hr]
 refine(hs w S _ st.sat (hx.tys st.facts) (nF st.own).1.weak).mono fun en w' ⟨i,v,S',he,hv,h1,h2,h3,h4⟩=>⟨_,he,?_⟩;exact k i _ _ S' ((st.turn h1 h2 h3 h4).put hd hv)
end

structure OI where
 h:Nat→Option Nat×Nat:=fun _=>(none,0)
 os:List (Option Nat×Nat):=[]
 fp:Nat→Prop:=pT
 v:Value:=undef
 ng:Nat→(Option Nat×Nat)×(Nat→Option Nat×Nat):=fun _=>((none,0),fun _=>(none,0))
def pS:OI:={}
def oi(l:Option Nat)(c:Nat):OI:={h:=fun _=>(l,c)}
def EffOK(E:En)(O:List OE)(need:mu)(o:Oper)(post:OI→List OE)(t:OI→Ty):Prop:=
 ∀a w S,jy w S→cJ E.base E.B w S O→cP E.N S a need→E.base≤w.heap.size→
  Kr E.P o a w (fun a' w' => ∃v S' x,a' =a.put o.dst v∧fY (Af O) w S w' S' ∧jy w' S' ∧cJ E.base E.B w' S' (post x)∧(t x).p S' v)
variable{post:OI→List OE}{t' :TypeId}
section
variable{ty:TypeId}
theorem Nm{y:Operand}{u:OI→Ty}(ti:TI E.P T sz bytes agg z)(hsz:r.sz=sz)(hz:Nat.beq z.length sz=true)(h0:Nat.blt 0 sz=true)(h128:Nat.ble bytes 2048=true)(ht:E.P.underlying t=some (.slice T))(hx:aI E.N G x (tV (aR l cap n)))(hy: ∀a w S,jy w S→cP E.N S a G→ ∃news,Src E.P r.sz t' (a.eval y) ys.length news w∧uT r S news ys)(happ:app xs ys=some zs)(hu: ∀l' cap' w0 S,(mj mm r T l' cap' zs).p w0 S→(u (oi l' cap')).p S (aR l' cap' zs.length))(hn:n=xs.length):
  EffOK E (mj mm r T l cap xs::O) G ⟨some d,.call ⟨.builtin .append,#[x,y],#[t,t']⟩,ty,pos,after,g⟩ (fun i=>mj mm r T (i.h 0).1 (i.h 0).2 zs::O) u:=fun a w S hs ho hf hb=>by
 subst hn
 have h1:a.eval x=aR l cap xs.length:=hx S a hf
 obtain⟨news,h2,h3⟩:=hy a w S hs hf
 obtain⟨l',cap',w',S',hr,hext,hsat,hh,hnew⟩:=xB (ty:=ty) ti hsz hz h0 h128 ht hs ho.1 hb h2 h3 happ
 have hrun:(execOp a.eval ⟨some d,.call ⟨.builtin .append,#[x,y],#[t,t']⟩,ty,pos,after,g⟩).run E.P w= .ok (.value (aR l' cap' zs.length)) w' :=by
  simp [execOp,resolve,invoke,builtin,h1,hr]
 refine⟨fun c h=>(by cases h),?_⟩
 rw [hrun]
 refine⟨_,S',oi l' cap',rfl,hext.more fun b hb=>⟨_,kO ..,hb⟩,hsat,⟨hh,fun f hf b hb hfb=>?_,ho.2.2.ext hext fun f hf b hb hbl=>ho.2.1 f hf b hbl hb⟩,hu l' cap' w' S' hh.1⟩
 rcases hnew b hb with h|h
 ·exact ho.2.1 f hf b h hfb
 ·have:=f.here (cJ.mem ho.2.2 f hf).1 b hfb
  omega
theorem uF{y:Operand}(ti:TI E.P T sz bytes agg z)(hsz:r.sz=sz)(hz:Nat.beq z.length sz=true)(h0:Nat.blt 0 sz=true)(h128:Nat.ble bytes 2048=true)(ht:E.P.underlying t=some (.slice T))(ht' :t' =t)(hx:aI E.N G x (tO r l cap xs))(hy:aI E.N G y (tD (fV r) ys))(happ:app xs ys=some zs):
  EffOK E (dT r T l cap xs::O) G ⟨some d,.call ⟨.builtin .append,#[x,y],#[t,t']⟩,ty,pos,after,g⟩ (fun i=>dT r T (i.h 0).1 (i.h 0).2 zs::O) (fun i=>tO r (i.h 0).1 (i.h 0).2 zs):=by
 subst ht'
 exact Nm ti hsz hz h0 h128 ht (H5 hx) (fun a w S hs hf=>xx ht hs (hy S a hf)) happ (fun _ _ _ _ h=>⟨rfl,p6 h⟩) rfl
theorem Qk{xs:List Operand}{u:OI→Ty}(hc:ak E.P f=true)(hs:fZ E.P f ts mm r T ys)(hx:jK E.N G xs ts)(hu: ∀l cap w0 S,(mj mm r T l cap ys).p w0 S→(u (oi l cap)).p S (aR l cap ys.length)):
  EffOK E O G ⟨some d,.call ⟨.value (.func f),xs.toArray,ats⟩,ty,pos,after,g⟩ (fun i=>mj mm r T (i.h 0).1 (i.h 0).2 ys::O) u:=fun a w S hsat ho hf hb=>by
 have hr:(execOp a.eval ⟨some d,.call ⟨.value (.func f),xs.toArray,ats⟩,ty,pos,after,g⟩).run E.P w= .ok (.enter f (xs.map a.eval).toArray) w:=by
  simp [execOp,resolve,Act.eval,Deferred.ofValue,invoke,ed hc]
 refine⟨fun c h=>(by cases h),?_⟩
 rw [hr]
 exact(hs w S _ hsat (hx.tys hf)).mono fun e w' ⟨l,cap,S',he,h1,h2,h3⟩=>⟨_,he,_,S',oi l cap,rfl,h1.more fun _ hb=>hb.elim,h2,qd ho h1 h3.1 (fun b hb=>(h3.2 b hb).resolve_right id) hb,hu l cap w' S' h3.1⟩
theorem cJ.turn{Or O2:List OE}(h:cJ base B w S (O1++Or))(hbl:base≤w.heap.size)(hx:fY (Af O1) w S w' S')(ho:cJ 0 pT w' S' O2)(hn: ∀k,(∃f∈O2,f.fp k)→(∃f∈O1,f.fp k)∨w.heap.size≤k):cJ base B w' S' (O2++Or):=by
 obtain⟨h1,h2,h3⟩:=nF h
 refine BQ (ku ho fun f hf k hk=>?_) (h2.ext hx fun f hf b hb ⟨g,hg,hgb⟩=>h3 g hg f hf b hgb hb) (fun e he f hf b heb hfb=>?_)
 ·rcases hn k ⟨f,hf,hk⟩with⟨g,hg,hgk⟩|h
  ·exact(cJ.mem h1 g hg).2 k hgk
  ·exact .inl (zf hbl h)
 ·rcases hn b ⟨e,he,heb⟩with⟨g,hg,hgb⟩|h
  ·exact h3 g hg f hf b hgb hfb
  ·have:=f.here (cJ.mem h2 f hf).1 b hfb
   omega
theorem Qj{xs:List Operand}(O1 Or:List OE){t:OI→Ty}{O2:OI→List OE}(hO:O=O1++Or)(hc:ak E.P f=true)(hs:cX E.P f ts O1 t O2)(hx:jK E.N G xs ts)(hpost: ∀i,O2 i++Or=post i):
  EffOK E O G ⟨some d,.call ⟨.value (.func f),xs.toArray,ats⟩,ty,pos,after,g⟩ post t:=fun a w S hsat ho hf hb=>by
 subst hO
 obtain rfl:(fun i=>O2 i++Or)=post:=funext hpost
 have hr:(execOp a.eval ⟨some d,.call ⟨.value (.func f),xs.toArray,ats⟩,ty,pos,after,g⟩).run E.P w= .ok (.enter f (xs.map a.eval).toArray) w:=by
  simp [execOp,resolve,Act.eval,Deferred.ofValue,invoke,ed hc]
 refine⟨fun c h=>(by cases h),?_⟩
 rw [hr]
 exact(hs w S _ hsat (hx.tys hf) (nF ho).1.weak).mono fun en w' ⟨i,v,S',he,hv,h1,h2,h3,h4⟩=>⟨_,he,v,S',i,rfl,h1.more fun b ⟨f,hf,hb⟩=>⟨f,GI _ hf,hb⟩,h2,cJ.turn ho hb h1 h3 h4,hv⟩
theorem Ar{op:Op}{t:OI→Ty}(h:EffOK E O G ⟨some d,op,ty,pos,after,none⟩ post t)(hd:Nat.blt d E.N.n=true)(k: ∀x:OI,RG E ops Q rest (post x) ((d,t x)::G)):RG E ops Q (⟨some d,op,ty,pos,after,none⟩::rest) O G:= .of rfl fun a w S st=>
 oE (fun a' w' ⟨v,S',x,ha,hx,hs,ho,hv⟩=>by
  subst ha
  exact k x _ _ S' ⟨st.ext.step hx fun b ⟨f,hf,hb⟩=>(cJ.mem st.own f hf).2 b hb,hs,ho,(st.facts.mono hx.keep).put hd hv⟩) (h a w S st.sat st.own st.facts st.base_le)
end

def LY(σ:Nat→OI)(k:Nat)(x:OI):Nat→OI:=fun j=>bif Nat.beq j k then x else σ j
theorem QP(σ:Nat→OI)(k:Nat)(x:OI):LY σ k x k=x:=by simp [LY]
theorem Ef(σ:Nat→OI){k j:Nat}(x:OI)(h:j≠k):LY σ k x j=σ j:=by
 have:Nat.beq j k=false:=by
  cases hb:Nat.beq j k with
  |false=>rfl
  |true=>exact absurd (oT hb) h
 simp [LY,this]
structure NE where
 slot:Nat
 ty:(Nat→OI)→Ty
 src:Option Nat
def ab8(G:mu)(ts:List (OI→Ty))(n:NE):Prop:=
 match n.src with
 |some j=> ∀σ,(ts[j]?).map (fun f=>f (σ j))=some (n.ty σ)
 |none=> ∀σ,de G n.slot=some (n.ty σ)
def Pk(G:mu)(ts:List (OI→Ty)):List NE→Prop
 |[]=>True
 |n::l=>ab8 G ts n∧Pk G ts l
theorem Pk.mem{ts:List (OI→Ty)}: ∀{l:List NE},Pk G ts l→ ∀n∈l,ab8 G ts n
 |_::_,⟨h,_⟩,_,.head _=>h
 |_::_,⟨_,h⟩,_,.tail _ hm=>Pk.mem h _ hm
def rO(E:En)(ops:Array Oper)(O:List OE)(need:mu)(o:Oper)(post:OI→List OE)(t:OI→Ty):Prop:=
 ∀a w S,jy w S→cJ E.base E.B w S O→cP E.N S a need→E.base≤w.heap.size→
  if Region.wanted o (yielded ops a.tmps)then Kr E.P o a w (fun a' w' => ∃v S' x,a' =a.put o.dst v∧fY (Af O) w S w' S' ∧jy w' S' ∧cJ E.base E.B w' S' (post x)∧(t x).p S' v)
  else∃x,cJ E.base E.B w S (post x)∧(t x).p S undef
theorem ei{need:mu}{t:OI→Ty}(hg:o.guard=none)(h:EffOK E O need o post t):rO E ops O need o post t:=fun a w S hs ho hf hb=>by
 have:Region.wanted o (yielded ops a.tmps)=true:=by unfold Region.wanted;rw [hg]
 rw [this,aY rfl]
 exact h a w S hs ho hf hb
def gE(es:List Bool)(i:Nat):Nat:=(es.take i).countP (· ==true)
def Ns(L:List Oper)(es:List Bool):Bool:=(List.range es.length).all fun i=>(List.range i).all fun j=> !((es[i]?).getD false&&(es[j]?).getD false)||nK L L.length i j
structure DJE(E:En)(G:mu)(l:List Oper)(ts:List (OI→Ty))(Om:Nat→(Nat→OI)→List OE)(es:List Bool)(done:Array Bool)(a:Act)(w:World)(S:SH)(σ:Nat→OI)(c:Nat):Prop where
 ext:fY E.B E.w0 E.S0 w S
 sat:jy w S
 own:cJ E.base E.B w S (Om c σ)
 size:a.tmps.size=E.N.n
 defers:a.defers=E.N.ds
 dsz:done.size=l.length
 down: ∀j o,l[j]? =some o→done.getD j false=true→ ∀e∈o.after,Region.binds .any e=true→done.getD e.on false=true
 old: ∀k t,de G k=some t→(∀j o,l[j]? =some o→done.getD j false=true→o.dst≠some k)→t.p S (a.tmps.getD k undef)
 new: ∀j o d f,l[j]? =some o→done.getD j false=true→o.dst=some d→ts[j]? =some f→(f (σ j)).p S (a.tmps.getD d undef)
 chain: ∀k,es[k]? =some true→(done.getD k false=true↔gE es k<c)
variable{es:List Bool}
theorem FK: ∀{i j:Nat},i<j→es[i]? =some true→gE es i<gE es j:=by
 induction es with
 |nil=>intro i j _ h;simp at h
 |cons e es ih=>
  intro i j hij h
  cases j with
  |zero=>omega
  |succ j=>
   cases i with
   |zero=>simp at h;subst h;simp [gE]
   |succ i=>
    have:=ih (i:=i) (j:=j) (by omega) (by simpa using h)
    cases e<;>simp [gE]at this ⊢ <;>omega
theorem wz: ∀{c k:Nat},c<gE es k→ ∃i,i<k∧es[i]? =some true∧gE es i=c:=by
 induction es with
 |nil=>intro c k h;simp [gE]at h
 |cons e es ih=>
  intro c k h
  cases k with
  |zero=>simp [gE]at h
  |succ k=>
   cases e with
   |false=>
    obtain⟨i,h1,h2,h3⟩:=ih (c:=c) (k:=k) (by simpa [gE] using h)
    exact⟨i+1,by omega,by simpa using h2,by simpa [gE] using h3⟩
   |true=>
    cases c with
    |zero=>exact⟨0,by omega,rfl,by simp [gE]⟩
    |succ c=>
     obtain⟨i,h1,h2,h3⟩:=ih (c:=c) (k:=k) (by simp [gE]at h ⊢;omega)
     exact⟨i+1,by omega,by simpa using h2,by simp [gE]at h3 ⊢;omega⟩
section
variable{ts:List (OI→Ty)}{Om:Nat→(Nat→OI)→List OE}
theorem DJE.step{σ:Nat→OI}{c c' :Nat}(h:DJE E G L ts Om es done a w S σ c){f:OI→Ty}{v:Value}{x:OI}{C:Nat→Prop}(hi:L[i]? =some o)(hd:o.dst=some d)(hdN:d<E.N.n)(hs2: ∀j p,L[j]? =some p→done.getD j false=true→p.dst=some d→i=j)(hwait: ∀e∈o.after,Region.binds .any e=true→done.getD e.on false=true)(ht:ts[i]? =some f)(hun:done.getD i true=false)(hext:fY C w S w' S')(hC: ∀b,C b→E.base≤b∨E.B b)(hsat:jy w' S')(hown:cJ E.base E.B w' S' (Om c' (LY σ i x)))(hv:(f x).p S' v)(hch: ∀k,es[k]? =some true→((done.setIfInBounds i true).getD k false=true↔gE es k<c')):
  DJE E G L ts Om es (done.setIfInBounds i true) (a.put o.dst v) w' S' (LY σ i x) c' :=by
 have hda:d<a.tmps.size:=by rw [h.size];exact hdN
 have hlt:i<done.size:=by rw [h.dsz];exact(jM.1 hi).1
 have hset: ∀j,(done.setIfInBounds i true).getD j false=true→j=i∨done.getD j false=true:=fun j hj=>by
  by_cases hij:i=j
  ·exact .inl hij.symm
  ·rw [u0 false hij]at hj;exact .inr hj
 have hseti:(done.setIfInBounds i true).getD i false=true:=by simp [hlt]
 have hun' :done.getD i false=false:=by simp [hlt]at hun ⊢;exact hun
 refine⟨h.ext.step hext hC,hsat,hown,?_,?_,by simp [h.dsz],fun j p hj hdone e he hb=>?_,fun k u hk hno=>?_,fun j p d' u hj hdone hd' hu=>?_,hch⟩
 ·rw [hd];simp [Act.put,h.size]
 ·rw [hd];exact h.defers
 ·rcases hset j hdone with rfl|hj'
  ·rw [hi]at hj
   have:o=p:=by simpa using hj
   subst this
   exact vK (hwait e he hb)
  ·exact vK (h.down j p hj hj' e he hb)
 ·have hne:d≠k:=fun e=>hno i o hi hseti (by rw [hd,e])
  rw [hd,rj hda,aL hne]
  exact u.mono hext.keep (h.old k u hk fun j p hj hdone=>hno j p hj (vK hdone))
 ·rw [hd,rj hda]
  by_cases hij:j=i
  ·subst hij
   rw [hi]at hj
   have:o=p:=by simpa using hj
   subst this
   rw [hd]at hd'
   have:d=d' :=by simpa using hd'
   subst this
   rw [aY rfl]
   rw [ht]at hu
   have:f=u:=by simpa using hu
   subst this
   rw [QP]
   exact hv
  ·have hj' :=(hset j hdone).resolve_left hij
   have hne:d≠d' :=fun e=>by
    subst e
    have:=hs2 j p hj hj' hd'
    exact hij this.symm
   rw [aL hne,Ef σ x hij]
   exact Ty.mono _ hext.keep (h.new j p d' u hj hj' hd' hu)
end

section
variable{ty:TypeId}
theorem sP(ht:E.P.underlying t=some (.slice e))(hx:aI E.N G x (tV (.slice none 0 0))):bS E O G ⟨dst,.call ⟨.builtin .len,#[x],#[t]⟩,ty,pos,after,g⟩ (tD (rI .i64) (0:Int)):=
 .of_pure fun a w S _ _ hf=>by
  have h1:a.eval x= .slice none 0 0:=hx S a hf
  refine⟨.int .i64 0,?_,cZ.2 rfl⟩
  simp [execOp,resolve,invoke,builtin,Builtin.len_,lG ht,h1,goInt]
theorem sQ(ht:E.P.underlying t=some (.slice e))(hx:aI E.N G x (tV (.slice none 0 0))):bS E O G ⟨dst,.call ⟨.builtin .cap,#[x],#[t]⟩,ty,pos,after,g⟩ (tD (rI .i64) (0:Int)):=
 .of_pure fun a w S _ _ hf=>by
  have h1:a.eval x= .slice none 0 0:=hx S a hf
  refine⟨.int .i64 0,?_,cZ.2 rfl⟩
  simp [execOp,resolve,invoke,builtin,Builtin.cap_,lG ht,h1,goInt]
theorem xM{hi:Operand}(ht:E.P.underlying t=some (.slice T))(ti:TI E.P T sz bytes agg z)(hx:aI E.N G x (tV (.slice none 0 0)))(hhi:aI E.N G hi (tD (rI k) (0:Int))):
  bS E O G ⟨dst,.slice t x none (some hi) none,ty,pos,after,g⟩ (tV (.slice none 0 0)):=
 .of_pure fun a w S _ _ hf=>by
  have h1:a.eval x= .slice none 0 0:=hx S a hf
  have h6:=cZ.1 (hhi S a hf)
  refine⟨.slice none 0 0,?_,rfl⟩
  have hb:=lP (P:=E.P) (w:=w) (k:=k) (n:=(0:Int)) (y:=0) (code:= .sliceAcap) (by omega) (by omega)
  simp [execOp,Instr.sliceAt,h1,h6,Instr.slice,lG ht,Instr.sliceBounds,hb,lP (k:=k) (n:=(0:Int)) (y:=0) (by omega) (by omega),ti.sizeOf]
end

def nQ{α:Type}(n:Int)(z:α):Option (List α):=if 0≤n∧n≤68719476736 then some (List.replicate n.toNat z)else none
theorem xr{n:Int}{z:α}(h:nQ n z=some zs): ∃m:Nat,n=m∧m≤68719476736∧zs=List.replicate m z:=by
 unfold nQ at h
 split at h
 ·rename_i hc;exact⟨n.toNat,by omega,by omega,by simpa using h.symm⟩
 ·cases h
theorem vk{α:Type}{r:Rp α}{x:α}{z:List Value}(hx: ∀S,r.rc S z x)(S:SH): ∀n:Nat,uT r S (List.replicate n z).flatten (List.replicate n x)
 |0=>rfl
 |n+1=>⟨z,_,by rw [List.replicate_succ,List.flatten_cons],hx S,vk hx S n⟩
theorem ER(z:List Value):(List.range z.length).map (fun i=>z[i%z.length]?.getD default)=z:=by
 apply Jr
 intro k
 rcases m8 k z.length with h|h
 ·rw [AL,List.getElem?_range h]
  simp [CO h,h]
 ·rw [D4 (by simpa using h),D4 h]
theorem oB(z:List Value)(n:Nat):(Builtin.zeroCells z.toArray n).toList=(List.replicate n z).flatten:=by
 unfold Builtin.zeroCells
 simp
 induction n with
 |zero=>simp
 |succ n ih=>
  rw [List.replicate_succ,List.flatten_cons,←ih,Nat.succ_mul,Nat.add_comm,List.range_add,List.map_append,ER,List.map_map]
  congr 1
  apply GG
  intro i _
  simp
theorem vq(z:List Value)(n sz:Nat)(h:z.length=sz):(madeCells z.toArray (n*sz)).toList=(List.replicate n z).flatten:=by
 subst h
 have:=oB z n
 unfold Builtin.zeroCells at this
 unfold madeCells
 simpa using this
section
variable{ty:TypeId}
theorem flat_len(h:z.length=sz)(n:Nat):(List.replicate n z).flatten.length=n*sz:=by
 simp [h]
theorem Su{x:α}{n:Int}{y y' :Operand}(ti:TI E.P T sz bytes agg z)(hsz:r.sz=sz)(hz:Nat.beq z.length sz=true)(h128:Nat.ble bytes 2048=true)(ht:E.P.underlying t=some (.slice T))(hx: ∀S,r.rc S z x)(hy:aI E.N G y (tD (rI k) n))(hy' :aI E.N G y' (tD (rI k') n))(h:nQ n x=some zs):
  EffOK E O G ⟨some d,.makeSlice t y y',ty,pos,after,g⟩ (fun i=>fj r T (i.h 0).1 (i.h 0).2 zs::O) (fun i=>tV (aR (i.h 0).1 (i.h 0).2 zs.length)):=fun a w S hs ho hf hb=>by
 subst hsz
 obtain⟨i,zv,hi,h1,h2,h3,h4⟩:=ti.get
 obtain⟨m,rfl,hm,rfl⟩:=xr h
 have hyv:=cZ.1 (hy S a hf)
 have hyv' :=cZ.1 (hy' S a hf)
 have hz2:z.length=r.sz:=oT hz
 have h128' :=pj h128
 have hbytes:(i.bytes:Int)*(m:Int)≤281474976710656:=by
  have:i.bytes*m≤2048*68719476736:=vL (by omega) hm
  have h5:((i.bytes*m:Nat):Int)≤281474976710656:=by omega
  rwa [xl]at h5
 have hr:=run_make (P:=E.P) w t T i zv ht hi h3 k k' (m:Int) (m:Int) (by omega) (Int.le_refl _) hbytes (by omega)
 rw [AE,h1,h4]at hr
 obtain⟨he,hs',hno⟩:=fX (w:=w) (.cells (madeCells z.toArray (m*r.sz)) T (0,0)) hs
 have hrun:(execOp a.eval ⟨some d,.makeSlice t y y',ty,pos,after,g⟩).run E.P w= .ok (.value (.slice (some ⟨w.heap.size,0,none⟩) m m)) (w.alloc (.cells (madeCells z.toArray (m*r.sz)) T (0,0))):=by
  simp [execOp,hyv,hyv',hr]
 refine⟨fun c h=>(by cases h),?_⟩
 rw [hrun]
 have hfl:=flat_len hz2 m
 refine⟨_,S,oi (some w.heap.size) m,rfl,he.more fun _ hb=>hb.elim,hs',qd ho he (e:=fj r T (some w.heap.size) m (List.replicate m x)) ⟨(List.replicate m z).flatten,⟨_,xj w _,by simp,by simp only [maxLen];omega,by rw [size_madeCells],?_⟩,vk hx S m,fun b hb=>by rw [←pR hb];exact hno⟩ (fun b hb=>AI (pR hb)) hb,?_⟩
 ·rw [vq z m r.sz hz2,CT]
  exact sf (by omega)
 ·show _=aR _ _ _
  rw [CT];rfl
theorem xZ{x:α}{n:Int}{s y:Operand}{kn:IntKind}(ti:TI E.P T sz bytes agg z)(hsz:r.sz=sz)(hz:Nat.beq z.length sz=true)(h0:Nat.blt 0 sz=true)(h128:Nat.ble bytes 2048=true)(ht:E.P.underlying t=some (.slice T))(ht' :E.P.underlying t' =some (.int kn))(hx: ∀S,r.rc S z x)(hs' :aI E.N G s (tV (.slice none 0 0)))(hy:aI E.N G y (tD (rI k) n))(hn:0<n)(h:nQ n x=some zs):
  EffOK E O G ⟨some d,.call ⟨.builtin .append,#[s,y],#[t,t']⟩,ty,pos,after,g⟩ (fun i=>fj r T (i.h 0).1 (i.h 0).2 zs::O) (fun i=>tV (aR (i.h 0).1 (i.h 0).2 zs.length)):=fun a w S hs ho hf hb=>by
 subst hsz
 obtain⟨i,zv,hi,h1,h2,h3,h4⟩:=ti.get
 obtain⟨m,rfl,hm,rfl⟩:=xr h
 have hsv:a.eval s= .slice none 0 0:=hs' S a hf
 have hyv:=cZ.1 (hy S a hf)
 have hz2:z.length=r.sz:=oT hz
 have h128' :=pj h128
 have h0' :0<r.sz:=by simpa [wS] using h0
 have hbytes:m*i.bytes≤281474976710656:=by
  have:m*i.bytes≤68719476736*2048:=vL hm (by omega)
  omega
 have hr:=Lib.run_append_nil_zeros (P:=E.P) w t t' ty T i zv k kn ht ht' hi h3 m (by omega) (by omega) (by omega) hbytes
 have hge:=grownCap_ge w m 0 T
 have hle:=grownCap_le_maxLen w m 0 T (by simp only [maxLen];omega)
 generalize grownCap w m 0 T=cp at hr hge hle
 obtain⟨C,hC⟩: ∃C,Builtin.zeroCells zv.cells m++Builtin.zeroCells zv.cells (cp-m)=C:=⟨_,rfl⟩
 rw [hC]at hr
 obtain⟨he0,hs0⟩:=yj (w:=w) hs
 obtain⟨he,hs2,hno⟩:=fX (w:=w.drew) (.cells C T (0,0)) hs0
 have hx2:fY pT w S (w.drew.alloc (.cells C T (0,0))) S:=he0.trans he
 have hrun:(execOp a.eval ⟨some d,.call ⟨.builtin .append,#[s,y],#[t,t']⟩,ty,pos,after,g⟩).run E.P w= .ok (.value (.slice (some ⟨w.heap.size,0,none⟩) m cp)) (w.drew.alloc (.cells C T (0,0))):=by
  simp [execOp,resolve,invoke,builtin,hsv,hyv,hr]
 refine⟨fun c h=>(by cases h),?_⟩
 rw [hrun]
 have hfl:=flat_len hz2 m
 have hC1:C.toList=(List.replicate m z).flatten++(List.replicate (cp-m) z).flatten:=by
  rw [←hC,Array.toList_append,h4,oB,oB]
 refine⟨_,S,oi (some w.heap.size) cp,rfl,hx2.more fun _ hb=>hb.elim,hs2,qd ho hx2 (e:=fj r T (some w.heap.size) cp (List.replicate m x)) ⟨(List.replicate m z).flatten,⟨C,xj w.drew _,by simpa using hge,hle,?_,?_⟩,vk hx S m,fun b hb=>by rw [←pR hb];exact hno⟩ (fun b hb=>AI (pR hb)) hb,?_⟩
 ·have:C.toList.length=cp*r.sz:=by
   rw [hC1,iI,hfl,flat_len hz2,←uL];congr 1;omega
  simpa using this
 ·rw [hC1,CT,←hfl,List.take_left]
 ·show _=aR _ _ _
  rw [CT];rfl

theorem Hy{x:α}{y:Operand}(ti:TI E.P T sz bytes agg z)(hsz:r.sz=sz)(hz:Nat.beq z.length sz=true)(ht:E.P.underlying t=some (.slice T))(hx: ∀S,r.rc S z x)(hone:z.all (·.oneCell')=true)(hs:dA xs lo (xs.length:Int)=some ys)(hy:aI E.N G y (tV (oP sz l cap lo.toNat ys.length)))(hzs:xs.take lo.toNat++List.replicate ys.length x=zs)(k:RG E ops Q rest (fj r T l cap zs::O) G):
  RG E ops Q (⟨none,.call ⟨.builtin .clear,#[y],#[t]⟩,ty,pos,after,none⟩::rest) (fj r T l cap xs::O) G:= .of rfl fun a w S st=>by
 subst hsz
 subst hzs
 obtain⟨i,zv,hi,h1,h2,h3,h4⟩:=ti.get
 have hyv:a.eval y=oP r.sz l cap lo.toNat ys.length:=hy S a st.facts
 have hz2:z.length=r.sz:=oT hz
 obtain⟨lo',m,rfl,hm,h5,h6,rfl⟩:=gV hs
 have hm' :m=xs.length:=by omega
 subst hm'
 rw [xm]at hyv k
 rw [AE]at hyv k
 by_cases hnil:xs.drop lo' =[]
 ·have hlo:xs.length≤lo' :=F3.1 hnil
  rw [hnil]at hyv k
  have e1:xs.take lo' ++List.replicate ([]:List α).length x=xs:=by simp [sf hlo]
  rw [e1]at k
  have hrun:(execOp a.eval ⟨none,.call ⟨.builtin .clear,#[y],#[t]⟩,ty,pos,after,none⟩).run E.P w= .ok (.value (.tuple #[])) w:=by
   cases l<;>simp [execOp,resolve,invoke,builtin,Builtin.clear_,lG ht,hyv,oP]
  refine⟨fun c h=>(by cases h),?_⟩
  rw [hrun]
  exact k _ _ S st
 ·obtain⟨⟨cells,hraw,hrc,hno⟩,hbase⟩:=st.own.1
  have hlt:lo' <xs.length:=by
   rcases m8 lo' xs.length with h|h
   ·exact h
   ·exact absurd (AG h) hnil
  cases l with
  |none=>have:=hraw.1;omega
  |some b=>
   obtain⟨cur,g1,g2,g3,g4,g5⟩:=hraw
   have hno' :S b=none:=hno b rfl
   have hne: ¬(cap=lo'):=by omega
   have hld:(xs.drop lo').length=xs.length-lo' :=by simp
   have hfl:=flat_len hz2 (xs.length-lo')
   have hones: ∀u∈(List.replicate (xs.length-lo') z).flatten,u.oneCell' =true:=by
    intro u hu
    obtain⟨q,hq,hu⟩:=List.mem_flatten.1 hu
    rw [(List.mem_replicate.1 hq).2]at hu
    exact jZ.1 hone u hu
   have hmul:xs.length*r.sz≤cur.size:=by rw [g4];exact BY _ g2
   have hfit:lo' *r.sz+(xs.length-lo')*r.sz=xs.length*r.sz:=by rw [←uL];congr 1;omega
   have hst:=run_storeCells_at E.P b (lo' *r.sz) T (List.replicate (xs.length-lo') z).flatten 0 cur w g1 (by omega) hones
   simp only [yZ]at hst
   have hrun:(execOp a.eval ⟨none,.call ⟨.builtin .clear,#[y],#[t]⟩,ty,pos,after,none⟩).run E.P w= .ok (.value (.tuple #[])) (w.setRow b (cur.toList.take (lo' *r.sz)++(List.replicate (xs.length-lo') z).flatten++cur.toList.drop (lo' *r.sz+(List.replicate (xs.length-lo') z).flatten.length)).toArray):=by
    have e1: ∃q,xs.length-lo' =q+1:=⟨xs.length-lo' -1,by omega⟩
    obtain⟨q,hq⟩:=e1
    have e2:a.eval y= .slice (some ⟨b,lo' *r.sz,none⟩) (q+1) (cap-lo'):=by rw [hyv,hld,hq];simp [oP,hne]
    rw [hq]at hst ⊢
    simp [execOp,resolve,invoke,builtin,Builtin.clear_,lG ht,e2,zeroValue,typeInfo,hi,h3,h4,oB,hst]
   refine⟨fun c h=>(by cases h),?_⟩
   rw [hrun]
   have hset:=setRow_heap w b cur (cur.toList.take (lo' *r.sz)++(List.replicate (xs.length-lo') z).flatten++cur.toList.drop (lo' *r.sz+(List.replicate (xs.length-lo') z).flatten.length)).toArray T _ g1
   have hl2:(xs.take lo' ++List.replicate (xs.drop lo').length x).length=xs.length:=by simp;omega
   have hsp:uT r S (cells.take (lo' *r.sz)) (xs.take lo'):=by
    have e:xs=xs.take lo' ++xs.drop lo' :=(vR _ _).symm
    rw [e]at hrc
    have:=(qK hrc).1
    rwa [show(xs.take lo').length=lo' from by simp;omega]at this
   have hcl:((cur.toList.take (lo' *r.sz)++(List.replicate (xs.length-lo') z).flatten++cur.toList.drop (lo' *r.sz+(List.replicate (xs.length-lo') z).flatten.length)).toArray).toList.take ((xs.take lo' ++List.replicate (xs.drop lo').length x).length*r.sz)=cells.take (lo' *r.sz)++(List.replicate (xs.length-lo') z).flatten:=by
    rw [hl2,←g5,BV,xk (BY _ (by omega))]
    have hlen1:(cur.toList.take (lo' *r.sz)++(List.replicate (xs.length-lo') z).flatten).length=xs.length*r.sz:=by
     rw [iI,hfl,CN,D3,xk (by omega)];exact hfit
    rw [←hlen1,List.take_left]
   obtain⟨q1,q2,q3⟩:=qL (O:=O) st.sat (fj r T (some b) cap xs) (fj r T (some b) cap (xs.take lo' ++List.replicate (xs.drop lo').length x)) st.own (fun k=>⟨fun h=>(pR h).symm,fun h=>by rw [h];rfl⟩) (fun k=>⟨fun h=>(pR h).symm,fun h=>by rw [h];rfl⟩)
    (w' :=w.setRow b (cur.toList.take (lo' *r.sz)++(List.replicate (xs.length-lo') z).flatten++cur.toList.drop (lo' *r.sz+(List.replicate (xs.length-lo') z).flatten.length)).toArray) ⟨rfl,rfl,rfl,by simp [World.setRow],dy _⟩ (fun k hk=>setRow_other w b k _ hk)
    ⟨cells.take (lo' *r.sz)++(List.replicate (xs.length-lo') z).flatten,⟨_,hset,by rw [hl2];exact g2,g3,by simp only [GE,iI,CN,D2,D3];omega,hcl⟩,by rw [hld];exact wh hsp (vk hx S _),fun k hk=>by rw [←pR hk];exact hno'⟩ hno'
   ·exact k _ _ S ⟨st.ext.step q1 (fun c hc=>hbase c (by rw [hc];rfl)),q2,q3,st.facts⟩
end

def tz{α:Type}(r:Rp α)(n:Nat):Rp (List α) where
 sz:=n*r.sz
 agg:=true
 rc:=fun S cs xs=>xs.length=n∧uT r S cs xs
 mono:=fun h ⟨h1,h2⟩=>⟨h1,tw h h2⟩
 len:=fun⟨h1,h2⟩=>by rw [pf h2,h1]
 one:=fun⟨_,h2⟩=>DA h2
 sc:=fun h=>by cases h
section
section
variable{ty:TypeId}
theorem Gm{i:Int}(ht:E.P.underlying t=some (.array n e))(ti:TI E.P e sz bytes agg z)(hsz:r.sz=sz)(hx:aI E.N G x (bK (tz r n) xs))(hi:aI E.N G ix (tD (rI k) i))(hy:cN xs i=some y):
  bS E O G ⟨dst,.indexAddr t x ix,ty,pos,after,g⟩ (bK r y):=
 .of_pure fun a w S _ _ hf=>by
  subst hsz
  obtain⟨b,off,c,T,fr,h1,h2,h3,h4⟩:=hx S a hf
  have h5:a.eval ix= .int k i:=cZ.1 (hi S a hf)
  obtain⟨h0,hy'⟩:=lW hy
  have hlt:i.toNat<xs.length:=(jM.1 hy').1
  have hc:0≤i∧i<(n:Int):=⟨h0,by omega⟩
  refine⟨.pointer (some ⟨b,off+i.toNat*r.sz,none⟩),?_,b,_,c,T,fr,rfl,h2,?_⟩
  ·simp [execOp,h1,h5,Instr.indexAt,asIntOf,lG ht,Instr.sureAddr,hc,ti.sizeOf,jT]
  ·have h6:=A8 h4 hy'
   rw [AJ,BV,pV]at h6
   have hmul:i.toNat*r.sz+r.sz≤n*r.sz:=by rw [←Nat.succ_mul];exact BY _ (by omega)
   have hmin:min r.sz ((tz r n).sz-i.toNat*r.sz)=r.sz:=by
    show min r.sz (n*r.sz-i.toNat*r.sz)=r.sz
    omega
   rwa [hmin]at h6
theorem Gk{i:Int}(ht:E.P.underlying t=some (.array n e))(ti:TI E.P e sz bytes agg z)(hm:bx (tz r n) T b xs∈O)(hx:aI E.N G x (tV (aN b 0)))(hi:aI E.N G ix (tD (rI k) i))(hy:cN xs i=some y):
  bS E O G ⟨dst,.indexAddr t x ix,ty,pos,after,g⟩ (tV (aN b (i.toNat*sz))):=
 .of_pure fun a w S _ ho hf=>by
  have h1:a.eval x=aN b 0:=hx S a hf
  have h5:a.eval ix= .int k i:=cZ.1 (hi S a hf)
  obtain⟨⟨_,c,_,h4,_⟩,_⟩:=ho.mem _ hm
  obtain⟨h0,hy'⟩:=lW hy
  have hlt:i.toNat<xs.length:=(jM.1 hy').1
  have hc:0≤i∧i<(n:Int):=⟨h0,by omega⟩
  refine⟨_,?_,rfl⟩
  simp [execOp,h1,h5,aN,Instr.indexAt,asIntOf,lG ht,Instr.sureAddr,hc,ti.sizeOf,jT]
end
end
theorem zy{α:Type}{r:Rp α}{c:Value}{x:α}(h: ∀S,r.rc S [c] x)(S:SH): ∀n,uT r S (List.replicate n c) (List.replicate n x)
 |0=>rfl
 |n+1=>⟨[c],_,rfl,h S,zy h S n⟩
theorem SW{c:Value}{x:α}(n:Nat)(h: ∀S,r.rc S [c] x): ∀S,(tz r n).rc S (List.replicate n c) (List.replicate n x):=fun S=>⟨CT,zy h S n⟩
def Yk(n:Nat):Option Unit:=if n≤68719476736 then some ()else none
def WG(n:Int):Option Unit:=if 0<n then some ()else none
theorem Fg{n:Int}{u:Unit}(h:WG n=some u):0<n:=by
 unfold WG at h
 split at h
 ·assumption
 ·cases h
theorem F1{e:Exit}(mm:Bool)(r:Rp α)(T:TypeId)(h:AT E Q e (mj mm r T none 0 []::O) G):AT E Q e O G:=fun a w S st=>h a w S (st.fresh mm r T)
theorem yQ{x:α}(h:dA xs lo (xs.length:Int)=some ys)(hz:xs.take lo.toNat++List.replicate ys.length x=zs):zs.length=xs.length:=by
 obtain⟨l,m,rfl,hm,h1,h2,rfl⟩:=gV h
 have hm' :m=xs.length:=by omega
 subst hm'
 rw [←hz]
 simp
 omega

def tC(n:FuncId)(cts:List Ty):Ty where
 p:=fun S v=> ∃cap:List Value,v= .func (.func n) #[] cap.toArray∧w9 S cts cap
 mono:=fun h ⟨cap,e,k⟩=>⟨cap,e,w9.mono h k⟩
section
section
variable{ty:TypeId}
theorem Kt{fid:FuncId}{caps:List Operand}(hcap:jK E.N G caps cts):bS E O G ⟨dst,.makeFunc (.func fid) #[] caps.toArray,ty,pos,after,g⟩ (tC fid cts):=
 .of_pure fun a w S _ _ hf=>⟨.func (.func fid) #[] (caps.map a.eval).toArray,by simp [execOp,Instr.makeFunc],_,rfl,hcap.tys hf⟩
end
theorem Cs{n:FuncId}{ty:TypeId}{fo:Operand}{xs:List Operand}(O1 Or:List OE){t:OI→Ty}{O2:OI→List OE}(hO:O=O1++Or)(hc:ak E.P n=true)(hs:cX E.P n (ts++cts) O1 t O2)(hf:aI E.N G fo (tC n cts))(hx:jK E.N G xs ts)(hpost: ∀i,O2 i++Or=post i):
  EffOK E O G ⟨some d,.call ⟨.value fo,xs.toArray,ats⟩,ty,pos,after,g⟩ post t:=fun a w S hsat ho hF hb=>by
 subst hO
 obtain rfl:(fun i=>O2 i++Or)=post:=funext hpost
 obtain⟨cap,e,hcap⟩:=hf S a hF
 have hr:(execOp a.eval ⟨some d,.call ⟨.value fo,xs.toArray,ats⟩,ty,pos,after,g⟩).run E.P w= .ok (.enter n ((xs.map a.eval).toArray++cap.toArray)) w:=by
  simp [execOp,resolve,e,Deferred.ofValue,invoke,ed hc]
 refine⟨fun c h=>(by cases h),?_⟩
 rw [hr]
 have e2:(xs.map a.eval).toArray++cap.toArray=((xs.map a.eval)++cap).toArray:=by simp
 rw [e2]
 exact(hs w S _ hsat ((hx.tys hF).append hcap) (nF ho).1.weak).mono fun en w' ⟨i,v,S',he,hv,h1,h2,h3,h4⟩=>⟨_,he,v,S',i,rfl,h1.more fun b ⟨f,hf,hb⟩=>⟨f,GI _ hf,hb⟩,h2,cJ.turn ho hb h1 h3 h4,hv⟩
end

def xT{α:Type}(xs:List α)(lo:Int)(n:Nat)(i:Int):Option α:=if 0≤i∧i<(n:Int)then cN xs (lo+i)else none
theorem qQ{i:Int}(h:xT xs lo n i=some y):0≤i∧i<(n:Int)∧cN xs (lo+i)=some y:=by
 unfold xT at h
 split at h
 ·rename_i hc;exact⟨hc.1,hc.2,h⟩
 ·cases h
theorem sJ(h:dA xs lo hi=some ys):0≤lo:=by
 obtain⟨l,m,rfl,_,_,_,_⟩:=gV h
 omega
section
theorem m7(hm:mj mm r T l cap xs∈O)(hs:dA xs lo hi=some ys)(h:(l=none→ys.length=0)∧ys.length≤maxLen→RG E ops Q rest O G):RG E ops Q rest O G:=fun a w S st=>by
 refine h ?_ a w S st
 obtain⟨cells,h1,_⟩:=(st.own.mem _ hm).1
 obtain⟨l',m,_,_,_,h8,rfl⟩:=gV hs
 have hlen:((xs.take m).drop l').length≤xs.length:=by simp;omega
 cases l with
 |none=>have:=h1.1;exact⟨fun _=>by omega,by omega⟩
 |some b=>obtain⟨cur,_,g2,g3,_⟩:=h1;exact⟨fun h=>(by cases h),by omega⟩
section
variable{ty:TypeId}
theorem DC{lo:Nat}(ht:E.P.underlying t=some (.slice e))(hv:l=none→n=0)(hx:aI E.N G x (tV (oP sz l cap lo n))):
  bS E O G ⟨dst,.call ⟨.builtin .len,#[x],#[t]⟩,ty,pos,after,g⟩ (tD (rI .i64) (n:Int)):=
 .of_pure fun a w S _ ho hf=>by
  have h1:a.eval x=oP sz l cap lo n:=hx S a hf
  obtain⟨ad,c,h3⟩: ∃ad c,oP sz l cap lo n= .slice ad n c:=by
   cases l with
   |none=>rw [hv rfl];exact⟨none,0,rfl⟩
   |some b=>exact⟨_,_,rfl⟩
  refine⟨.int .i64 n,?_,cZ.2 rfl⟩
  simp [execOp,resolve,invoke,builtin,Builtin.len_,lG ht,h1,h3,goInt]
theorem nr{i:Int}(ht:E.P.underlying t=some (.slice e))(ti:TI E.P e sz bytes agg z)(hsz:r.sz=sz)(hm:mj mm r U l cap xs∈O)(hl0:0≤lo)(hx:aI E.N G x (tV (oP sz l cap lo.toNat n)))(hi' :aI E.N G ix (tD (rI k) i))(hy:xT xs lo n i=some y):
  bS E O G ⟨dst,.indexAddr t x ix,ty,pos,after,g⟩ (tV (pU l ((lo+i).toNat*sz+0))):=
 .of_pure fun a w S _ ho hf=>by
  subst hsz
  have h1:a.eval x=oP r.sz l cap lo.toNat n:=hx S a hf
  have h3:a.eval ix= .int k i:=cZ.1 (hi' S a hf)
  obtain⟨hi0,hin,hxi⟩:=qQ hy
  obtain⟨_,hx'⟩:=lW hxi
  obtain⟨b,cur,rfl,_,hle,_⟩:=vl (ho.mem _ hm).1 hx'
  have hlt2:(lo+i).toNat<xs.length:=(jM.1 hx').1
  have hne: ¬(cap=lo.toNat):=by omega
  refine⟨_,?_,rfl⟩
  have hc:0≤i∧i<(n:Int):=⟨hi0,hin⟩
  have e1:(lo+i).toNat=lo.toNat+i.toNat:=by omega
  simp [execOp,h1,h3,oP,hne,Instr.indexAt,asIntOf,lG ht,hc,ti.sizeOf,jT,pU,aN,e1,uL]
end
end

section
variable{ty:TypeId}{l:List Oper}
end

theorem og3 [Inhabited α]{c b:Bool}{x:Option α}{k:α→Option β}{d:Option β}{r:β}(h:c=true→(if b=true then x.bind k else d)=some r): ∃y,((c&&b)=true→x=some y∧k y=some r)∧(c=true→b=false→d=some r):=by
 cases c with
 |false=>exact⟨default,fun e=>(by cases e),fun e=>(by cases e)⟩
 |true=>
  obtain⟨y,h1,h2⟩:=og (h rfl)
  exact⟨y,fun e=>h1 e,fun _ e=>h2 e⟩
def pw{κ β:Type} [DecidableEq κ]:List (κ×β)→κ→Option β
 |[],_=>none
 |p::m,k=>if p.1=k then some p.2 else pw m k
def dj{κ β:Type} [DecidableEq κ]:List (κ×β)→κ→β→List (κ×β)
 |[],k,v=>[(k,v)]
 |p::m,k,v=>if p.1=k then(k,v)::m else p::dj m k v
def HD{κ:Type}(P:Program)(kt:TypeId)(kv:κ→Value):Prop:= ∃d,P.underlying kt=some d∧(∀a,MapKept.IsKey d (kv a))∧ ∀a b,kv a=kv b→a=b
def kvI(k:IntKind)(n:Int):Value:= .int k n
theorem d5{kt:TypeId}(h:P.underlying kt=some (.int k)):HD P kt (kvI k):=⟨_,h,fun _=>rfl,fun a b e=>by injection e⟩
structure MV(β:Type) where
 p:World→SH→β→Option Nat×Nat→Value→Prop
 here: ∀{w S y o v},p w S y o v→ ∀j,o.1=some j→j<w.heap.size
 kept: ∀{C w w' S S' y o v},p w S y o v→fY C w S w' S' →(∀j,o.1=some j→ ¬C j)→p w' S' y o v
def wY{β:Type}(ty:β→Ty):MV β where
 p:=fun _ S y o v=>o.1=none∧(ty y).p S v
 here:=fun h j hj=>by rw [h.1]at hj;cases hj
 kept:=fun h k _=>⟨h.1,(ty _).mono k.keep h.2⟩
section
variable{κ:Type} [DecidableEq κ]{V:MV β}{kv:κ→Value}{d:TypeDesc}{k:κ}
def w7(V:MV β)(kv:κ→Value)(w:World)(S:SH)(h:Option κ):List MapEntry→List (Option Nat×Nat)→List (κ×β)→Prop
 |[],[],[]=>True
 |e::es,o::os,q::m=>e.key=kv q.1∧(if h=some q.1 then o.1=none else V.p w S q.2 o e.val)∧(∀o' ∈os,∀j,o.1=some j→o'.1≠some j)∧(∀p∈m,p.1≠q.1)∧w7 V kv w S h es os m
 |_,_,_=>False
theorem Hj{h:Option κ}: ∀{es:List MapEntry} {os:List (Option Nat×Nat)} {m:List (κ×β)},w7 V kv w S h es os m→ ∀o∈os,∀j,o.1=some j→j<w.heap.size
 |[],[],[],_,o,ho,_,_=>by cases ho
 |e::es,o::os,q::m,⟨_,h2,_,_,h5⟩,o',ho,j,hj=>by
  rcases fk.1 ho with rfl|ho
  ·split at h2
   ·rw [h2]at hj;cases hj
   ·exact V.here h2 j hj
  ·exact Hj h5 o' ho j hj
theorem By{C:Nat→Prop}(k:fY C w S w' S'){h:Option κ}: ∀{es:List MapEntry} {os:List (Option Nat×Nat)} {m:List (κ×β)},w7 V kv w S h es os m→(∀o∈os,∀j,o.1=some j→ ¬C j)→w7 V kv w' S' h es os m
 |[],[],[],_,_=>trivial
 |e::es,o::os,q::m,⟨h1,h2,h3,h4,h5⟩,hC=>⟨h1,by
  split
  ·rename_i hh;rw [aY hh]at h2;exact h2
  ·rename_i hh;rw [aL hh]at h2;exact V.kept h2 k (hC o (kO ..)),h3,h4,By k h5 fun o' ho=>hC o' (kN _ ho)⟩
theorem De{h:Option κ}: ∀{es:List MapEntry} {os:List (Option Nat×Nat)} {m:List (κ×β)},w7 V kv w S h es os m→(∀p∈m,h≠some p.1)→w7 V kv w S none es os m
 |[],[],[],_,_=>trivial
 |e::es,o::os,q::m,⟨h1,h2,h3,h4,h5⟩,hk=>⟨h1,by
  rw [aL (hk q (kO ..))]at h2
  rw [aL (by simp)];exact h2,h3,h4,De h5 fun p hp=>hk p (kN _ hp)⟩
theorem sn(hd: ∀a,MapKept.IsKey d (kv a))(hi: ∀a b,kv a=kv b→a=b)(a b:κ):Instr.sameNow d (kv a) (kv b)=some (decide (a=b)):=by
 obtain⟨r,h1,h2⟩:=MapKept.sameNow_of_keys (hd a) (hd b)
 rw [h1]
 by_cases h:a=b
 ·subst h;rw [h2.2 rfl];simp
 ·rw [xc h]
  cases r with
  |false=>rfl
  |true=>exact absurd (hi _ _ (h2.1 rfl)) h
theorem tQ(hd: ∀a,MapKept.IsKey d (kv a))(hi: ∀a b,kv a=kv b→a=b): ∀{es:List MapEntry} {os:List (Option Nat×Nat)} {m:List (κ×β)} (i:Nat),w7 V kv w S none es os m→
  ∃os',(∀x∈os',x∈os∨x.1=none)∧w7 V kv w S (some k) es os' m∧
   ((pw m k=none∧Instr.findNow d (kv k) es i=some none)∨ ∃(y:β) (o:Option Nat×Nat) (e:MapEntry) (j:Nat),pw m k=some y∧o∈os∧V.p w S y o e.val∧Instr.findNow d (kv k) es i=some (some (j,e.val))∧ ∀x∈os',∀q,o.1=some q→x.1≠some q)
 |[],[],[],i,_=>⟨[],fun x hx=>(by cases hx),trivial,.inl ⟨rfl,rfl⟩⟩
 |e::es,o::os,q::m,i,⟨h1,h2,h3,h4,h5⟩=>by
  rw [aL (by simp)]at h2
  by_cases hk:q.1=k
  ·refine⟨(none,0)::os,fun x hx=>?_,⟨h1,by rw [aY (by rw [hk])],fun _ _ _ hj=>(by cases hj),h4,?_⟩,.inr ⟨q.2,o,e,i,by unfold pw;rw [aY hk],kO ..,h2,?_,fun x hx j hj=>?_⟩⟩
   ·rcases fk.1 hx with rfl|hx
    ·exact .inr rfl
    ·exact .inl (kN _ hx)
   ·have: ∀{es:List MapEntry} {os:List (Option Nat×Nat)} {m:List (κ×β)},w7 V kv w S none es os m→(∀p∈m,p.1≠k)→w7 V kv w S (some k) es os m:=by
     intro es
     induction es with
     |nil=>intro os m h _;cases os<;>cases m<;>first|trivial|exact h.elim
     |cons e es ih=>
      intro os m h hm
      cases os with
      |nil=>cases m<;>exact h.elim
      |cons o os=>
       cases m with
       |nil=>exact h.elim
       |cons q m=>
        obtain⟨g1,g2,g3,g4,g5⟩:=h
        rw [aL (by simp)]at g2
        exact⟨g1,by rw [aL (fun e=>hm q (kO ..) (pR e).symm)];exact g2,g3,g4,ih g5 fun p hp=>hm p (kN _ hp)⟩
    exact this h5 (fun p hp=>by rw [←hk];exact h4 p hp)
   ·unfold Instr.findNow
    rw [h1,sn hd hi,hk,y5 rfl]
   ·rcases fk.1 hx with rfl|hx
    ·exact fun e=>by cases e
    ·exact h3 x hx j hj
  ·obtain⟨os',g1,g2,g3⟩:=tQ hd hi (i+1) h5
   refine⟨o::os',fun x hx=>?_,⟨h1,by rw [aL (fun e=>hk (pR e).symm)];exact h2,fun o' ho' j hj=>?_,h4,g2⟩,?_⟩
   ·rcases fk.1 hx with rfl|hx
    ·exact .inl (kO ..)
    ·exact(g1 x hx).imp (kN _) id
   ·rcases g1 o' ho' with h|h
    ·exact h3 o' h j hj
    ·rw [h];exact fun e=>by cases e
   ·have hf:Instr.findNow d (kv k) (e::es) i=Instr.findNow d (kv k) es (i+1):=by
     conv=>lhs;unfold Instr.findNow
     rw [h1,sn hd hi,xc (fun e=>hk e.symm)]
    have hm:pw (q::m) k=pw m k:=by conv=>lhs;unfold pw;rw [aL hk]
    rw [hf,hm]
    refine g3.imp id fun⟨y,o1,e1,j,f1,f2,f3,f4,f5⟩=>⟨y,o1,e1,j,f1,kN _ f2,f3,f4,fun x hx q hq=>?_⟩
    rcases fk.1 hx with rfl|hx
    ·exact fun e=>h3 o1 f2 q e hq
    ·exact f5 x hx q hq
theorem KB(x:α)(xs:List α)(j:Nat)(f:α→α):(x::xs).modify (j+1) f=x::xs.modify j f:=by simp [List.modify_succ_cons]
theorem Hk(hd: ∀a,MapKept.IsKey d (kv a))(hi: ∀a b,kv a=kv b→a=b){y:β}{o:Option Nat×Nat}{v:Value}{born:Nat}(hv:V.p w S y o v): ∀{es:List MapEntry} {os:List (Option Nat×Nat)} {m:List (κ×β)} (i:Nat),w7 V kv w S (some k) es os m→(∀o' ∈os,∀j,o.1=some j→o'.1≠some j)→
    ∃os',(∀x∈os',x∈os∨x=o)∧
      ((∃(j:Nat) (e:MapEntry),Instr.findNow d (kv k) es i=some (some (i+j,e.val))∧es[j]? =some e∧e.key=kv k∧w7 V kv w S none (es.modify j fun e=>{e with key:=kv k,val:=v}) os' (dj m k y))∨
        (Instr.findNow d (kv k) es i=some none∧w7 V kv w S none (es++[⟨kv k,v,born⟩]) os' (dj m k y)))
  |[],[],[],i,_,_=>⟨[o],fun x hx=> .inr (zN.1 hx),.inr ⟨rfl,⟨rfl,by rw [aL (by simp)];exact hv,fun _ h=>(by cases h),fun _ h=>(by cases h),trivial⟩⟩⟩
  |e::es,o1::os,q::m,i,⟨h1,h2,h3,h4,h5⟩,ha=>by
    by_cases hk:q.1=k
    · refine⟨o::os,fun x hx=>?_,.inl ⟨0,e,?_,rfl,by rw [h1,hk],?_⟩⟩
      · rcases fk.1 hx with rfl|hx
        · exact .inr rfl
        · exact .inl (kN _ hx)
      · unfold Instr.findNow
        rw [h1,sn hd hi,hk,y5 rfl]
        rfl
      · unfold dj
        rw [aY hk,List.modify_zero_cons]
        exact⟨rfl,by rw [aL (by simp)];exact hv,fun o' ho' =>ha o' (kN _ ho'),fun p hp=>by rw [←hk];exact h4 p hp,
          De h5 fun p hp e=>h4 p hp (by rw [hk];exact(pR e).symm)⟩
    · obtain⟨os',g1,g2⟩:=Hk hd hi (born:=born) hv (i+1) h5 fun o' ho' =>ha o' (kN _ ho')
      rw [aL (fun e=>hk (pR e).symm)]at h2
      have hf:Instr.findNow d (kv k) (e::es) i=Instr.findNow d (kv k) es (i+1):=by
        conv=>lhs;unfold Instr.findNow
        rw [h1,sn hd hi,xc (fun e=>hk e.symm)]
      have hm:dj (q::m) k y=q::dj m k y:=by conv=>lhs;unfold dj;rw [aL hk]
      have hap: ∀o' ∈os',∀j,o1.1=some j→o'.1≠some j:=fun o' ho' j hj=>by
        rcases g1 o' ho' with h|rfl
        · exact h3 o' h j hj
        · exact fun e=>ha o1 (kO ..) j e hj
      have hne: ∀p∈dj m k y,p.1≠q.1:=by
        have: ∀m:List (κ×β),(∀p∈m,p.1≠q.1)→ ∀p∈dj m k y,p.1≠q.1:=by
          intro m
          induction m with
          |nil=>intro _ p hp;rw [zN.1 hp];exact fun e=>hk e.symm
          |cons p0 m ih=>
            intro hm p hp
            unfold dj at hp
            split at hp
            · rcases fk.1 hp with rfl|hp
              · exact fun e=>hk e.symm
              · exact hm p (kN _ hp)
            · rcases fk.1 hp with rfl|hp
              · exact hm _ (kO ..)
              · exact ih (fun p hp=>hm p (kN _ hp)) p hp
        exact this m h4
      rw [hf,hm]
      refine⟨o1::os',fun x hx=>?_,g2.imp (fun⟨j,e',f1,f2,f3,f4⟩=>⟨j+1,e',by rw [f1];congr 3;omega,by simpa using f2,f3,?_⟩) fun⟨f1,f2⟩=>⟨f1,?_⟩⟩
      · rcases fk.1 hx with rfl|hx
        · exact .inl (kO ..)
        · exact(g1 x hx).imp (kN _) id
      · rw [KB]
        exact⟨h1,by rw [aL (by simp)];exact h2,hap,hne,f4⟩
      · exact⟨h1,by rw [aL (by simp)];exact h2,hap,hne,f2⟩
theorem Hi{h:Option κ}: ∀{es:List MapEntry} {os:List (Option Nat×Nat)} {m:List (κ×β)},w7 V kv w S h es os m→ ∀x∈es,∃q∈m,x.key=kv q.1
 |[],[],[],_,x,hx=>by cases hx
 |e::es,o::os,q::m,⟨h1,_,_,_,h5⟩,x,hx=>by
  rcases fk.1 hx with rfl|hx
  ·exact⟨q,kO ..,h1⟩
  ·obtain⟨q',g1,g2⟩:=Hi h5 x hx
   exact⟨q',kN _ g1,g2⟩
theorem Qb(hd: ∀a,MapKept.IsKey d (kv a)){h:Option κ}{es:List MapEntry}{os:List (Option Nat×Nat)}{m:List (κ×β)}(h4:w7 V kv w S h es os m)(g1:Instr.findNow d (kv k) es i=some none){x:MapEntry}(hx:x∈es):x.key≠kv k:=by
 rcases MapKept.findNow_spec (hd k) es i (fun y hy=>by obtain⟨q,_,e⟩:=Hi h4 y hy;rw [e];exact hd _)with⟨_,h2⟩|⟨j,e,h2,_⟩
 ·exact h2 x hx
 ·rw [g1]at h2;cases h2
def nO(V:MV β)(kv:κ→Value)(b:Nat)(h:Option κ)(os:List (Option Nat×Nat))(m:List (κ×β)):OE where
 fp:=fun j=>j=b∨ ∃o∈os,o.1=some j
 p:=fun w S=>S b=none∧(∀o∈os,o.1≠some b)∧ ∃es clock,w.heap[b]? =some (.map es clock)∧w7 V kv w S h es.toList os m∧MapKept.Stamped es clock
 here:=by
  intro w S ⟨_,_,es,clock,h3,h4,_⟩ j hj
  rcases hj with rfl|⟨o,ho,hj⟩
  ·exact(vT.1 h3).1
  ·exact Hj h4 o ho j hj
 kept:=by
  intro C w w' S S' ⟨h1,h2,es,clock,h3,h4,hst⟩ k hC
  have hlt:=(vT.1 h3).1
  exact⟨by rw [k.old b hlt (hC b (.inl rfl))];exact h1,h2,es,clock,by rw [k.heap b hlt (hC b (.inl rfl))];exact h3,By k h4 (fun o ho j hj=>hC j (.inr ⟨o,ho,hj⟩)),hst⟩
def qP(b:Nat):Value:= .map (some b)
end
section
variable{κ:Type} [DecidableEq κ]{V:MV β}{kv:κ→Value}{os:List (Option Nat×Nat)}{m:List (κ×β)}{k:κ}{kt et:TypeId}{i v:Operand}{dst:Option Nat}{ty:TypeId}
def LD(N:Fr)(G:mu)(x:Operand)(u:Value):Prop:= ∀S a,cP N S a G→a.eval x=u
theorem oe{N:Fr}{q:IntKind}{n:Int}(h:aI N G x (tD (rI q) n)):LD N G x (kvI q n):=fun S a hf=>cZ.1 (h S a hf)
def ZV(P:Program)(T:TypeId)(z:Value):Prop:=(P.info? T).bind (·.zero)=some z
theorem ZV.run{z:Value}(h:ZV P T z)(w:World):(zeroValue T).run P w= .ok z w:=by
 unfold ZV at h
 cases hi:P.info? T with
 |none=>rw [hi]at h;cases h
 |some i=>
  rw [hi]at h
  have h' :i.zero=some z:=h
  simp [zeroValue,typeInfo,hi,h']
theorem Aq(V:MV β)(kv:κ→Value)(hd:Nat.blt d E.N.n=true)(k: ∀b,RG E ops Q rest (nO V kv b none [] []::O) ((d,tV (qP b))::G)):
  RG E ops Q (⟨some d,.makeMap t none,ty,pos,after,none⟩::rest) O G:= .of rfl fun a w S st=>by
 obtain⟨he,hs',hno⟩:=fX (w:=w) (.map #[] 0) st.sat
 have hrun:(execOp a.eval ⟨some d,.makeMap t none,ty,pos,after,none⟩).run E.P w= .ok (.value (qP w.heap.size)) (w.alloc (.map #[] 0)):=by
  simp [execOp,Instr.makeMap,qP]
 refine⟨fun c h=>(by cases h),?_⟩
 rw [hrun]
 exact k w.heap.size _ _ S ⟨st.ext.step0 he,hs',qd st.own he ⟨hno,fun _ h=>(by cases h),#[],0,xj w _,trivial,MapKept.stamped_empty 0⟩ (fun b hb=>by
  rcases hb with rfl|⟨_,h,_⟩
  ·exact dy _
  ·cases h) st.base_le,st.facts.put hd rfl⟩
theorem nl{kk:Value}{es:Array MapEntry}{clock:Nat}{q:TypeDesc}{z:Value}{u:Option (Nat×Value)}(hm:P.underlying t=some (.map kt et))(hq:P.underlying kt=some q)(hk:MapKept.IsKey q kk)(hb:w.heap[b]? =some (.map es clock))(hz:ZV P et z)(hf:Instr.findNow q kk es.toList 0=some u)(c:Bool):(Instr.lookup t (qP b) kk c).run P w= .ok (if c then .tuple #[(u.map (·.2)).getD z,.bool u.isSome]else(u.map (·.2)).getD z) w:=by
 cases u with
 |none=>simp [Instr.lookup,qP,lG hm,NL hb,NI hq hk,MapKept.run_findKey hq hf,hz.run,Result.andThen]
 |some r=>simp [Instr.lookup,qP,lG hm,NL hb,NI hq hk,MapKept.run_findKey hq hf,Result.andThen]
theorem MI{γ:β→Ty}{z:β}{zv:Value}(hm:E.P.underlying t=some (.map kt et))(hk:HD E.P kt kv)(hz:ZV E.P et zv)(hzt: ∀S,(γ z).p S zv)(hmem:nO (wY γ) kv b none os m∈O)(hx:aI E.N G x (tV (qP b)))(hi:LD E.N G i (kv k)):
  bS E O G ⟨dst,.lookup t x i false,ty,pos,after,g⟩ (γ ((pw m k).getD z)):= .of_pure fun a w S hs ho hf=>by
 obtain⟨⟨_,_,es,clock,h3,h4,_⟩,_⟩:=cJ.mem ho _ hmem
 obtain⟨q,hq,hd,hinj⟩:=hk
 have h1:a.eval x=qP b:=hx S a hf
 have h2:a.eval i=kv k:=hi S a hf
 obtain⟨_,_,_,h5⟩:=tQ hd hinj (k:=k) 0 h4
 rcases h5 with⟨g1,g2⟩|⟨y,o,e,j,g1,g2,g3,g4,g5⟩
 ·refine⟨zv,by simp [execOp,h1,h2,nl hm hq (hd k) h3 hz g2],by rw [g1];exact hzt S⟩
 ·refine⟨e.val,by simp [execOp,h1,h2,nl hm hq (hd k) h3 hz g4],by rw [g1];exact g3.2⟩
theorem Ku{γ:β→Ty}{z:β}{zv:Value}(hm:E.P.underlying t=some (.map kt et))(hk:HD E.P kt kv)(hz:ZV E.P et zv)(hzt: ∀S,(γ z).p S zv)(hmem:nO (wY γ) kv b none os m∈O)(hx:aI E.N G x (tV (qP b)))(hi:LD E.N G i (kv k)):
  bS E O G ⟨dst,.lookup t x i true,ty,pos,after,g⟩ (tT [γ ((pw m k).getD z),tD rB (pw m k).isSome]):= .of_pure fun a w S hs ho hf=>by
 obtain⟨⟨_,_,es,clock,h3,h4,_⟩,_⟩:=cJ.mem ho _ hmem
 obtain⟨q,hq,hd,hinj⟩:=hk
 have h1:a.eval x=qP b:=hx S a hf
 have h2:a.eval i=kv k:=hi S a hf
 obtain⟨_,_,_,h5⟩:=tQ hd hinj (k:=k) 0 h4
 rcases h5 with⟨g1,g2⟩|⟨y,o,e,j,g1,g2,g3,g4,g5⟩
 ·refine⟨.tuple #[zv,.bool false],by simp [execOp,h1,h2,nl hm hq (hd k) h3 hz g2],[zv,.bool false],rfl,by rw [g1];exact hzt S,iO.2 (by rw [g1];rfl),trivial⟩
 ·refine⟨.tuple #[e.val,.bool true],by simp [execOp,h1,h2,nl hm hq (hd k) h3 hz g4],[e.val,.bool true],rfl,by rw [g1];exact g3.2,iO.2 (by rw [g1];rfl),trivial⟩
theorem B7{kk:Value}{es:Array MapEntry}{clock:Nat}{q:TypeDesc}{val:Value}(hm:P.underlying t=some (.map kt et))(hq:P.underlying kt=some q)(hk:MapKept.IsKey q kk)(hb:w.heap[b]? =some (.map es clock)):
  (Instr.findNow q kk es.toList 0=some none→(Instr.mapUpdate t (qP b) kk val).run P w= .ok () {w with heap:=w.heap.setIfInBounds b (.map (es.push ⟨kk,val,clock⟩) (clock+1))})∧
  (∀j e,Instr.findNow q kk es.toList 0=some (some (j,e))→(∀e',es.toList[j]? =some e' →e'.key=kk)→(∃e',es.toList[j]? =some e')→(Instr.mapUpdate t (qP b) kk val).run P w= .ok () {w with heap:=w.heap.setIfInBounds b (.map (es.modify j fun e=>{e with key:=kk,val:=val}) clock)}):=by
 refine⟨fun hf=>?_,fun j e hf hj he=>?_⟩
 ·simp [Instr.mapUpdate,qP,lG hm,NL hb,NI hq hk,MapKept.run_findKey hq hf,MapKept.run_setObj_map _ hb,Result.andThen]
 ·obtain⟨e',he'⟩:=he
  have h1:=hj e' he'
  have h2:es[j]? =some e' :=by simpa using he'
  simp [Instr.mapUpdate,qP,lG hm,NL hb,NI hq hk,MapKept.run_findKey hq hf,MapKept.run_setObj_map _ hb,Result.andThen,h2,h1,MapKept.run_keyThatStays hk]
theorem PT{y:β}{o:Option Nat×Nat}{val:Value}(hs:jy w S)(hm:E.P.underlying t=some (.map kt et))(hk:HD E.P kt kv)(hp:(nO V kv b (some k) os m).p w S)(hv:V.p w S y o val)(hob:o.1≠some b)(hap: ∀o' ∈os,∀j,o.1=some j→o'.1≠some j):
  ∃w' os',(Instr.mapUpdate t (qP b) (kv k) val).run E.P w= .ok () w' ∧fY (fun j=>j=b) w S w' S∧jy w' S∧(nO V kv b none os' (dj m k y)).p w' S∧(∀j,(nO V kv b none os' (dj m k y)).fp j→(nO V kv b (some k) os m).fp j∨o.1=some j):=by
 obtain⟨hno,hnb,es,clock,h3,h4,hst⟩:=hp
 obtain⟨q,hq,hdk,hinj⟩:=hk
 obtain⟨os',p1,p2⟩:=Hk hdk hinj (born:=clock) hv 0 h4 hap
 have hnb' : ∀o' ∈os',o'.1≠some b:=fun o' ho' =>by
  rcases p1 o' ho' with h|rfl
  ·exact hnb o' h
  ·exact hob
 have hfp: ∀j,(j=b∨ ∃o∈os',o.1=some j)→(j=b∨ ∃o∈os,o.1=some j)∨o.1=some j:=fun j hj=>by
  rcases hj with h|⟨o',ho',e⟩
  ·exact .inl (.inl h)
  ·rcases p1 o' ho' with h|rfl
   ·exact .inl (.inr ⟨o',h,e⟩)
   ·exact .inr e
 have hw: ∀X:Obj,fY (fun j=>j=b) w S {w with heap:=w.heap.setIfInBounds b X} S∧jy {w with heap:=w.heap.setIfInBounds b X} S∧({w with heap:=w.heap.setIfInBounds b X}:World).heap[b]? =some X:=fun X=>
  ⟨⟨rfl,rfl,rfl,dy _,by simp,fun j _ hj=>(MapKept.heap_set (o' :=X) h3).2 j hj,SH.le_refl _,fun _ _ _=>rfl⟩,hs.same fun j o hj=>(MapKept.heap_set (o' :=X) h3).2 j (fun e=>by subst e;rw [hno]at hj;cases hj),(MapKept.heap_set h3).1⟩
 obtain⟨r1,r2⟩:=B7 (val:=val) hm hq (hdk k) h3
 rcases p2 with⟨j,e,g1,g2,g3,g4⟩|⟨g1,g2⟩
 ·rw [uc]at g1
  obtain⟨x1,x2,x3⟩:=hw (.map (es.modify j fun e=>{e with key:=kv k,val:=val}) clock)
  refine⟨_,os',r2 j _ g1 (fun e' he' =>by rw [g2]at he';cases he';exact g3) ⟨_,g2⟩,x1,x2,⟨hno,hnb',_,_,x3,?_,MapKept.stamped_modify hst j _ (fun _ _=>rfl) (fun e' _ he' =>by rw [←Array.getElem?_toList,g2]at he';cases he';exact g3.symm)⟩,hfp⟩;refine By x1 (by rw [Array.toList_modify];exact g4) fun o' ho' j hj e=>?_
  subst e
  exact hnb' o' ho' hj
 ·obtain⟨x1,x2,x3⟩:=hw (.map (es.push ⟨kv k,val,clock⟩) (clock+1))
  refine⟨_,os',r1 g1,x1,x2,⟨hno,hnb',_,_,x3,?_,MapKept.stamped_push hst (fun x hx e=>?_)⟩,hfp⟩
  rotate_left
  ·exact Qb hdk h4 g1 hx e
  refine By x1 (by rw [Array.toList_push];exact g2) fun o' ho' j hj e=>?_
  subst e
  exact hnb' o' ho' hj
end

def z7(tmps:Array Value):ResultVar→Sem Value
 | .tmp t=>pure (tmps.getD t undef)
 | .cell a t=>do loadVar t (←asAddr (tmps.getD a undef))
def Ph(P:Program)(N:Fr)(G:mu)(rv:ResultVar)(t:Ty):Prop:= ∀a w S,jy w S→cP N S a G→ ∃v,(z7 a.tmps rv).run P w= .ok v w∧t.p S v
theorem aZ{N:Fr}{k:Nat}{t:Ty}(hk:de G k=some t):Ph P N G (.tmp k) t:=fun a w S _ hf=>⟨_,rfl,hf.at_ k t hk⟩
theorem bq{N:Fr}{k:Nat}{x:α}(ti:TI P T sz bytes agg z)(hsz:r.sz=sz)(hag:r.agg=agg)(hk:de G k=some (bK r x)):Ph P N G (.cell k T) (tD r x):=fun a w S hs hf=>by
 obtain⟨b,off,c,U,fr,h1,h2,h3⟩:=hf.at_ k _ hk
 obtain⟨c',h4,h5⟩:=hs.part h2 (r.len h3)
 rw [←h5]at h3
 have hl:=lQ ti h4 hsz hag h3
 have h1' :a.tmps[k]?.getD undef=Value.pointer (some ⟨b,off,none⟩):=by simpa [Jq] using h1
 exact⟨_,by simp [z7,h1',asAddr,hl],_,rfl,h3⟩
def Qv(P:Program)(N:Fr)(G:mu):List ResultVar→List Ty→Prop
 |[],[]=>True
 |rv::rvs,t::ts=>Ph P N G rv t∧Qv P N G rvs ts
 |_,_=>False
theorem Qv.run{N:Fr}(hs:jy w S)(hf:cP N S a G): ∀{rvs:List ResultVar} {ts:List Ty},Qv P N G rvs ts→ ∃vs,(rvs.mapM (z7 a.tmps)).run P w= .ok vs w∧w9 S ts vs∧vs.length=rvs.length
 |[],[],_=>⟨[],rfl,trivial,rfl⟩
 |rv::rvs,t::ts,⟨h1,h2⟩=>by
  obtain⟨v,g1,g2⟩:=h1 a w S hs hf
  obtain⟨vs,k1,k2,k3⟩:=Qv.run hs hf h2
  exact⟨v::vs,by simp [List.mapM_cons,g1,k1,Result.andThen],⟨g2,k2⟩,by simp [k3]⟩
theorem bR{rvs:List ResultVar}(hr:fn.results=rvs.toArray)(h1:Nat.beq rvs.length 1=false)(h:Qv P ⟨N,[]⟩ G rvs ts):
  AT ⟨P,⟨N,[]⟩,B,w0,S0,none⟩ (bodyPost P fn (Nk ⟨P,⟨N,[]⟩,B,w0,S0,none⟩ (tT ts))) .ret O G:=fun a w S st=>by
 obtain⟨vs,k1,k2,k3⟩:=h.run st.sat st.facts
 have hne: ¬vs.length=1:=by rw [k3];intro e;rw [e]at h1;cases h1
 refine⟨st.facts.defers,.tuple vs.toArray,?_,_,S,rfl,st.ext,st.sat,vs,rfl,k2⟩
 have e1:(fn.results.mapM (z7 a.tmps)).run P w= .ok vs.toArray w:=by
  rw [hr,List.mapM_toArray,Sem.run_map,k1]
  rfl
 have e3:results fn a.tmps=((fn.results.mapM (z7 a.tmps))>>=fun vs=>pure (if h:vs.size=1 then vs[0]else .tuple vs)):=rfl
 rw [e3,vJ,e1]
 simp [Result.andThen,hne]

theorem Q6{v:Value}(h:(tD (fV r) xs).p S v):(fV r).rc S [v] xs:=by
 obtain⟨cs,e,h2⟩:=h
 obtain⟨a,cap,e2,h3⟩:=h2
 subst e2
 rw [e]
 exact⟨a,cap,rfl,h3⟩
section
variable{ty:TypeId}
theorem qO{r:Rp β}{get:β→Value}{x:β}{p:Operand}(ti:TI E.P U 1 bytes false z)(hget:qu r off rV get)(hm:bx r T b x∈O)(hv:get x=aR l cap n)(hp:aI E.N G p (tV (aN b off))):
  bS E O G ⟨dst,.load U p,ty,pos,after,g⟩ (tV (aR l cap n)):=(cg (q:=rV) ti rfl rfl hget hm hp).imp fun _ _ h=>by rw [←hv];exact(vW.1 h).1
theorem sO{q:Rp α}{r:Rp β}{get:β→Value}{x:β}{V:TypeId}{p:Operand}(ti:TI E.P U 1 bytes false z)(hget:qu r off rV get)(hm:bx r T b x∈O)(hm2:dT q V l cap xs∈O)(hv:get x=aR l cap xs.length)(hp:aI E.N G p (tV (aN b off))):
  bS E O G ⟨dst,.load U p,ty,pos,after,g⟩ (tO q l cap xs):=fun a w S hs ho hf=>
 oE (fun _ _ ⟨v,S',h1,h2,h3,h4⟩=>⟨v,S',h1,h2,h3,h4,by
  have h5:v=aR l cap xs.length:=h4
  rw [h5]
  exact p6 (((ho.ext0 h2).mem _ hm2).1)⟩) (qO (g:=g) (ty:=ty) (pos:=pos) (after:=after) (dst:=dst) ti hget hm hv hp a w S hs ho hf)
theorem o0{o:Nat}{p:Operand}(hf:cR E.P T i=some (off,sz))(h0:Nat.beq sz 0=false)(hp:aI E.N G p (tV (aN b o)))(he:o+off=n):bS E O G ⟨dst,.fieldAddr T p i,ty,pos,after,g⟩ (tV (aN b n)):=by
 subst he
 exact Gp hf h0 hp
theorem wj{q:Rp α}{r:Rp β}{x:β}{p:Operand}(ti:TI E.P U sz bytes agg z)(hsz:q.sz=sz)(hag:q.agg=agg)(hag2:r.agg=agg)(hsz2:r.sz=sz)(hm:bx r T b x∈O)(hc: ∀w S cs,cJ E.base E.B w S O→r.rc S cs x→q.rc S cs y)(hp:aI E.N G p (tV (aN b 0))):
  bS E O G ⟨dst,.load U p,ty,pos,after,g⟩ (tD q y):= .of_pure fun a w S _ ho hf=>by
 have h1:a.eval p=aN b 0:=hp S a hf
 obtain⟨⟨_,cur,h5,h6⟩,_⟩:=ho.mem _ hm
 have h7:=hc w S _ ho h6
 have hl:=q.len h7
 have h8:q.rc S ((cur.toList.drop 0).take q.sz) y:=by rw [y4,sf (by omega)];exact h7
 exact⟨_,by simp [execOp,h1,aN,Instr.loadAt,Instr.sureAddr,lQ ti h5 hsz hag h8],_,rfl,h8⟩
theorem Bc{q:Rp α}{V:TypeId}(ho:cJ base B w S O)(hm:dT q V l cap xs∈O):(fV q).rc S [aR l cap xs.length] xs:=Q6 (p6 (ho.mem _ hm).1)
end
def vC{α β γ:Type}(r:Rp α)(r' :Rp γ)(off:Nat)(q:Rp β)(x:α)(y:β)(x' :γ):Prop:= ∀S cs ds,r.rc S cs x→q.rc S ds y→r'.rc S (cs.take off++ds++cs.drop (off+q.sz)) x'
theorem zX{set:α→β→α}{x:α}{y:β}(h:jU r off q set):vC r r off q x y (set x y):=fun S cs ds h1 h2=>h S cs x ds y h1 h2
theorem yq{r' :Rp γ}{x:α}{y:γ}(hs:r.sz=r'.sz):vC r r' 0 r' x y y:=fun S cs ds h1 h2=>by
 have hl:=r.len h1
 rw [List.take_zero,jY,DY (by omega),rn]
 exact h2
theorem NZ{α' :Type}{p:Rp α}{p' :Rp α'}{x:α×β}{y:γ}{x1:α'}(h:vC p p' 0 u x.1 y x1)(hu:Nat.ble u.sz p.sz=true):vC (cO p q) (cO p' q) 0 u x y (x1,x.2):=fun S cs ds ⟨a,b,e,h1,h2⟩ hd=>by
 have hl:=p.len h1
 have hu' :=pj hu
 have h3:=h S a ds h1 hd
 subst e
 rw [List.take_zero,jY,uc,GK (by omega),←jG]
 rw [List.take_zero,jY,uc]at h3
 exact⟨_,_,rfl,h3,h2⟩
theorem k7{β' :Type}{p:Rp α}{q' :Rp β'}{x:α×β}{y:γ}{off' :Nat}{x2:β'}(h:vC q q' off u x.2 y x2)(ho:off' =p.sz+off):vC (cO p q) (cO p q') off' u x y (x.1,x2):=fun S cs ds ⟨a,b,e,h1,h2⟩ hd=>by
 have hl:=p.len h1
 have h3:=h S b ds h2 hd
 subst e ho
 refine⟨a,_,?_,h1,h3⟩
 have e1:p.sz+off-a.length=off:=by omega
 have e2:p.sz+off+u.sz-a.length=off+u.sz:=by omega
 rw [List.take_append,List.drop_append,sf (by omega),DY (by omega),e1,e2]
 simp
theorem H8{α' β' :Type}{p:Rp α}{p' :Rp α'}{f:β→α}{f' :β' →α'}{x:β}{x' :β'}{y:γ}{z:α'}(h:vC p p' off u (f x) y z)(e:f' x' =z):vC (qc p f) (qc p' f') off u x y x' :=fun S cs ds h1 h2=>by
 show p'.rc S _ (f' x')
 rw [e]
 exact h S cs ds h1 h2
section
variable{e:Exit}{ty:TypeId}
theorem tW{r' :Rp γ}{x:α}{x' :γ}{y:β}{p v:Operand}(ti:TI E.P U sz bytes agg z)(hsz:q.sz=sz)(hset:vC r r' off q x y x')(hoff:Nat.ble (off+q.sz) r.sz=true)(hp:aI E.N G p (tV (aN b off)))(hv:aI E.N G v (tD q y))(k:RG E ops Q rest (bx r' T b x' ::O) G):RG E ops Q (⟨none,.store U p v,ty,pos,after,none⟩::rest) (bx r T b x::O) G:= .of rfl fun a w S st=>by
 have h1:a.eval p=aN b off:=hp S a st.facts
 obtain⟨ds,h2,h3⟩:=hv S a st.facts
 obtain⟨⟨hno,cur,h5,h6⟩,_⟩:=st.own.1
 have hl:=r.len h6
 have hoff' :=pj hoff
 obtain⟨w',hr,e1,e2,e3,e4,e5,e6⟩:=kS ti hsz h3 h5 (off:=off) (by simp at hl;omega)
 have hrun:(execOp a.eval ⟨none,.store U p v,ty,pos,after,none⟩).run E.P w= .ok .skip w' :=by
  simp [execOp,h1,h2,Instr.storeAt,aN,Instr.sureAddr,hr]
 refine⟨fun c h=>(by cases h),?_⟩
 rw [hrun]
 obtain⟨g1,g2,g3⟩:=qL (O:=O) st.sat (bx r T b x) (bx r' T b x') st.own (fun _=>Iff.rfl) (fun _=>Iff.rfl) ⟨e1,e2,e3,e4.1,e4.2⟩ e6 ⟨hno,_,e5,by simpa using hset S _ _ h6 h3⟩ hno
 exact k _ _ S ⟨st.ext.step g1 (fun c hc=>st.own.1.2 c hc),g2,g3,st.facts⟩
end

section
variable{b:Frame}{k:List Item}{cs:List Frame}{F:Fence}
theorem pH:step P (lone (b.atR a (.code (.scope c)::k)) cs w)= .next (lone (b.atR a (.code c:: .inScope c::k)) cs w):=
 step_lone_go (by simp [stepG,stepG.exec,Frame.atR])
theorem Ga:step P (lone (b.atR a (.inScope c::k)) cs w)= .next (lone (b.atR a k) cs w):=
 step_lone_go (by simp [stepG,stepG.exec,Frame.atR])
theorem LV(h:c.wpIn F n P (Exit.noGoto Q) a w):(Code.scope c).wpIn F n P Q a w:=by
 intro b k cs hro hb hr
 have h0:(lone (b.atR a (.code (.scope c)::k)) cs w).fenced P F:=fenced_calm hb hr rfl
 obtain⟨e,a₁,w₁,hq,harr⟩:=h b (.inScope c::k) cs hro hb hr
 cases e with
 |normal=>exact⟨.normal,a₁,w₁,hq,.head h0 pH (StepsIn.trans harr (.one (fenced_calm hb hr rfl) Ga))⟩
 |exit id=>
  have hx:exitTo id (.inScope c::k)=exitTo id k:=by simp [exitTo]
  exact⟨.exit id,a₁,w₁,hq,fun k' hk=> .head h0 pH (harr.1 k' (by rw [hx];exact hk)),
   fun hr' hk=>let⟨k₁,h1,h2⟩:=harr.2 hr' (by rw [hx];exact hk);⟨k₁,h1,.head h0 pH h2⟩⟩
 |goto l=>exact hq.elim
 |ret=>exact⟨_,a₁,w₁,hq,.of_steps (.one h0 pH) harr⟩
 |panic ch=>exact⟨_,a₁,w₁,hq,.of_steps (.one h0 pH) harr⟩
 |outgrown=>exact⟨_,a₁,w₁,hq,.of_steps (.one h0 pH) harr⟩
end
section
theorem LJ(h:CG E (Exit.noGoto Q) c O G):CG E Q (.scope c) O G:=fun a w S st=>LV (h a w S st)
theorem LK{l:Nat}(h:AT E Q .normal O G):CG E Q (.label l) O G:=fun a w S st=>wpIn_label (h a w S st)
theorem yY(h:AT E Q .ret O G):AT E (Exit.noGoto Q) .ret O G:=h
end

theorem IK [Inhabited α](h:i<m):qu (tz r m) (i*r.sz) r (fun x=>(x[i]?).getD default):=fun S cs x ⟨h1,h2⟩=>by
 have hi:x[i]? =some ((x[i]?).getD default):=by rw [oO (by omega)];rfl
 exact A8 h2 hi
theorem VW [DecidableEq α] [Inhabited α]{t e:Nat}(ht:P.underlying t=some (.array m e))(ti:TI P e sz bytes agg z)(hsz:r.sz=sz)(hag:r.agg=agg)(he:rN P e r n):rN P t (tz r m) (n+1):=fun S cs ds x y d w hx hy=>by
 obtain⟨i,zv,hi,hs,_⟩:=ti.get
 have hcell:P.cellsOf e=r.sz:=by unfold Program.cellsOf;rw [hi];simp [hs,hsz]
 have e1:(tz r m).val cs= .agg cs.toArray:=rfl
 have e2:(tz r m).val ds= .agg ds.toArray:=rfl
 rw [e1,e2,show d+(n+1)=(d+n)+1 from rfl,run_equalIn_array w (d+n) cs.toArray ds.toArray ht hi,List.range_eq_range',hcell]
 have key: ∀k j,j+k=m→(Op.eqItems (d+n) e r.sz cs.toArray ds.toArray (List.range' j k)).run P w= .ok (decide (x.drop j=y.drop j)) w:=by
  intro k
  induction k with
  |zero=>
   intro j hj
   rw [DY (by have:=hx.1;omega),DY (by have:=hy.1;omega)]
   rfl
  |succ k ih=>
   intro j hj
   have hjx:j<x.length:=by have:=hx.1;omega
   have hjy:j<y.length:=by have:=hy.1;omega
   have h1:=sq ti hsz hag (IK (r:=r) (m:=m) (i:=j) (by omega)) hx w
   have h2:=sq ti hsz hag (IK (r:=r) (m:=m) (i:=j) (by omega)) hy w
   have h3:=he S _ _ _ _ d w (IK (r:=r) (m:=m) (i:=j) (by omega) S cs x hx) (IK (r:=r) (m:=m) (i:=j) (by omega) S ds y hy)
   rw [List.range'_succ]
   unfold Op.eqItems
   simp only [vJ,h1,h2,h3,xe]
   have ex:x.drop j=(x[j]?).getD default::x.drop (j+1):=by rw [oO hjx];exact wV hjx
   have ey:y.drop j=(y[j]?).getD default::y.drop (j+1):=by rw [oO hjy];exact wV hjy
   rw [ex,ey]
   by_cases hq:(x[j]?).getD default=(y[j]?).getD default
   ·simp only [hq,AH,mw,fL,d7]
    rw [ih (j+1) (by omega)]
    congr 1
    simp
   ·simp [hq]
 have:=key m 0 (by omega)
 simpa using this
section
variable{ty:TypeId}
theorem Ch{xs:List Operand}{sz' bytes' :Nat}{agg' :Bool}{z' :List Value}(ht:E.P.underlying t=some (.array m T))(ti:TI E.P T sz bytes agg z)(hsz:r.sz=sz)(tj:TI E.P t sz' bytes' agg' z')(hz:z'.length=m*r.sz)(hm:m=ys.length)(hx:jK E.N G xs (ys.map (tD r))):bS E O G ⟨dst,.build t (zE 0 xs).toArray,ty,pos,after,g⟩ (tD (tz r m) ys):=
 .of_pure fun a w S _ _ hF=>by
  obtain⟨zv,hzr,hzc⟩:=tj.zero w
  obtain⟨cs,hc,hfill⟩:=Fs ys (xs.map a.eval) 0 [] z' (hx.tys hF) (by simp) (by rw [hz,hm])
  subst hsz
  have hparts:((zE 0 xs).toArray.map fun(i,x)=>(i,a.eval x)).toList=Dd 0 (xs.map a.eval):=by simpa using Cr a.eval 0 xs
  rw [jY,jY]at hfill
  refine⟨.agg cs.toArray,?_,cs,rfl,hm.symm,hc⟩
  simp only [execOp,Instr.build,vJ,hzr,xe,lG ht,ti.sizeOf,hzc,hparts,hfill]
  simp
end
end Go.Proofs.YtfhhakidodmdfaaGreatDoor

