/- cT of this claim: W14, W16, W17, W18, W19, W20, W22, W23, W24, W25, W26, W28, W30, W31, W32, W33. -/
import Derived.Test.YtdohlidddcgfjaaGreatFaV1
import Derived.RangeFuncRecord
import Derived.RangeFuncLeaves
import Derived.Laws.StructEq
import Derived.Lib.ConvBytes
import Derived.Lib.AppendZeros
import Derived.Laws.MakeOwn
import Derived.MapKept
import Derived.Scope
import Derived.ChangeKeysEq
set_option linter.all false
namespace Go.Proofs.YtdohlidddcgfjaaGreat
open Go

variable{S:SH}{a:Act}{b:Nat}{e:TypeId}{k:IntKind}{β:Type}{q:Rp β}{α:Type}{x:Operand}{y:α}
theorem eM{p:Rp α}:km (ci p q) 0 p (fun x y=>(y,x.2)):=fun S cs x ds y h k=>by
 obtain⟨a,b,e,h1,h2⟩:=h
 have hl:=p.len h1
 refine⟨ds,b,?_,k,h2⟩
 rw [e,←hl];simp
variable{off:Nat}{γ:Type}{u:Rp γ}
theorem bB{p:Rp α}{s:Rp γ}{off' :Nat}{u:β→γ→β}(h:km q off s u)(ho:off' =p.sz+off):km (ci p q) off' s (fun x y=>(x.1,u x.2 y)):=fun S cs x ds y hx hy=>by
 obtain⟨a,b,e,h1,h2⟩:=hx
 have hl:=p.len h1
 refine⟨a,b.take off++ds++b.drop (off+s.sz),?_,h1,h S b x.2 ds y h2 hy⟩
 rw [e,ho,←hl,List.take_length_add_append,show a.length+off+s.sz=a.length+(off+s.sz)from by omega,List.drop_length_add_append]
 simp
variable{f:FuncId}
theorem dS{p:Rp α}{q:Rp γ}{u:α→γ→α}{f:β→α}{set:β→γ→β}(h:km p off q u)(hf: ∀x y,f (set x y)=u (f x) y):km (ne p f) off q set:=fun S cs x ds y hx hy=>by
 show p.rc S _ (f (set x y))
 rw [hf]
 exact h S cs (f x) ds y hx hy
def mv(P:Program)(T:TypeId):Option (List (Nat×Nat)):=
 match P.underlying T with
 |some (.struct fs)=>fs.toList.mapM fun f=>(P.info? f.type).map fun q=>(f.offset,q.size)
 |_=>none
variable{P:Program}{w:World}
theorem Bb{P:Program}: ∀(fs:List Field) (ps:List (Nat×Nat)) (w:World),fs.mapM (fun f=>(P.info? f.type).map fun q=>(f.offset,q.size))=some ps→
  (fs.mapM (fun f=>do pure (f.offset,←sizeOf f.type):Field→Sem (Nat×Nat))).run P w= .ok ps w
 |[],ps,w,h=>by
  simp at h;subst h
  simp
 |f::fs,ps,w,h=>by
  simp only [List.mapM_cons]at h ⊢
  cases hq:P.info? f.type with
  |none=>simp [hq]at h
  |some q=>
   cases hr:fs.mapM (fun f=>(P.info? f.type).map fun q=>(f.offset,q.size))with
   |none=>simp [hq,hr]at h
   |some qs=>
    simp [hq,hr]at h
    subst h
    have ih:=Bb fs qs w hr
    simp [sizeOf,typeInfo,hq]at ih ⊢
    simp [ih]
variable{E:En}{G:mX}{O:List OE}{T:TypeId}{after:Array Edge}{agg:Bool}{bytes:Nat}{c:Code}{dst:Option Tmp}{g:Option (Nat×Bool)}{i:Nat}{l:Option Nat}{o:Oper}{pos:String}{r:Rp α}{rest:List Oper}{sz:Nat}{z:List Value}
section
variable{ty:TypeId}
def BP(E:En)(G:mX){α:Type}(r:Rp α)(ps:List (Nat×Nat)):α→List (Nat×Operand)→α→Prop
 |x,[],y=>x=y
 |x,(i,o)::rest,y=> ∃(β:Type) (q:Rp β) (set:α→β→α) (off:Nat) (v:β),ps[i]? =some (off,q.sz)∧km r off q set∧Nat.ble (off+q.sz) r.sz=true∧aK E.N G o (tD q v)∧BP E G r ps (set x v) rest y
theorem BH{α:Type}{r:Rp α}{ps:List (Nat×Nat)}{S:SH}{a:Act}(hF:cT E.N S a G): ∀(parts:List (Nat×Operand)) (x y:α) (cs:List Value),BP E G r ps x parts y→r.rc S cs x→
  ∃ds,r.rc S ds y∧Instr.fill (ps.toArray[·]?) cs.toArray (parts.map fun p=>(p.1,a.eval p.2))=some ds.toArray
 |[],x,y,cs,h,hx=>by
  have e:x=y:=h
  subst e
  exact⟨cs,hx,rfl⟩
 |(i,o)::rest,x,y,cs,⟨β,q,set,off,v,h1,h2,h3,h4,h5⟩,hx=>by
  obtain⟨c,hv,hc⟩:=h4 S a hF
  have hl:=q.len hc
  have hlr:=r.len hx
  have h3' :=rm h3
  have hcells:(a.eval o).cells=c.toArray:=by rw [hv];exact tz hc
  obtain⟨ds,h6,h7⟩:=BH hF rest _ y _ h5 (h2 S cs x c v hx hc)
  refine⟨ds,h6,?_⟩
  have hps:ps.toArray[i]? =some (off,q.sz):=by simpa using h1
  have hs:(a.eval o).cells.size=q.sz:=by rw [hcells];simpa using hl
  have h8:=xY (a.eval o) off (cs.take off) ((cs.drop off).take q.sz) (cs.drop (off+q.sz)) (by rw [hs];simp;omega) (by simp;omega)
  have e1:cs.take off++(cs.drop off).take q.sz++cs.drop (off+q.sz)=cs:=by
   rw [nh,←t6,tt,tt]
  rw [e1]at h8
  simp only [CO,Instr.fill,hps]
  rw [aW (by simp [hs,hlr];omega),h8,hcells]
  simpa using h7
theorem fX{x:α}{parts:List (Nat×Operand)}{ps:List (Nat×Nat)}(ti:TI E.P T sz bytes agg z)(hp:mv E.P T=some ps)(hz: ∀S,r.rc S z x)(hb:BP E G r ps x parts y)(ha:r.agg=true:=by rfl):
  cE E O G ⟨dst,.build T parts.toArray,ty,pos,after,g⟩ (tD r y):=
 .of_pure fun a w S _ _ hF=>by
  obtain⟨zv,hzr,hzc⟩:=ti.zero w
  obtain⟨ds,h1,h2⟩:=BH hF parts x y z hb (hz S)
  unfold mv at hp
  split at hp
  ·rename_i fs hu
   have hpl:=Bb fs.toList ps w hp
   have hpl2:(fs.mapM (fun f=>do pure (f.offset,←sizeOf f.type):Field→Sem (Nat×Nat))).run E.P w= .ok ps.toArray w:=by
    have hfs:fs=fs.toList.toArray:=by simp
    generalize fs.toList=l at hfs hpl
    subst hfs
    rw [List.mapM_toArray,Sem.run_map,hpl]
    rfl
   refine⟨.agg ds.toArray,?_,ds,(ro ha ds).symm,h1⟩
   simp only [execOp,Instr.build,s4,hzr,tq,jQ hu,hpl2,hzc]
   have hm:(parts.toArray.map fun(i,x)=>(i,a.eval x)).toList=parts.map fun p=>(p.1,a.eval p.2):=by simp
   rw [hm,h2]
   simp
  ·cases hp
end
variable{B:Nat→Prop}{N:Nat}{S0:SH}{U:TypeId}{fn:Func}{w0:World}
section
theorem Cc{k:Nat}{x:α}(hr:fn.results= #[.cell k T])(ti:TI P T sz bytes agg z)(hsz:r.sz=sz)(hag:r.agg=agg)(hk:d9 G k=some (ce r x)):
  AT ⟨P,⟨N,[]⟩,B,w0,S0,none⟩ (bodyPost P fn (Kp ⟨P,⟨N,[]⟩,B,w0,S0,none⟩ (tD r x))) .ret O G:=fun a w S st=>by
 obtain⟨b,off,c,U,fr,h1,h2,h3⟩:=st.facts.at_ k _ hk
 obtain⟨c',h4,h5⟩:=st.sat.part h2 (r.len h3)
 rw [←h5]at h3
 refine⟨st.facts.defers,r.val ((c'.toList.drop off).take r.sz),?_,_,S,rfl,st.ext,st.sat,_,rfl,h3⟩
 have hl:=lu ti h4 hsz hag h3
 have h1' :a.tmps[k]?.getD undef=Value.pointer (some ⟨b,off,none⟩):=by simpa [G8] using h1
 simp [results,hr,h1',asAddr,hl]
end

def pE(L:List Oper):Nat→Nat→Nat→Bool
 |0,_,_=>false
 |n+1,i,j=>match L[i]? with
  |some o=>o.after.toList.any fun e=>Region.binds .any e&&(Nat.beq e.on j||pE L n e.on j)
  |none=>false
def xE(L:List Oper)(m:Nat):Bool:=(List.range m).all fun j=>pE L L.length m j
def AY(L:List Oper)(n k:Nat):Bool:=(List.range k).all fun m=>xE L (n+m)&&(match L[n+m]? with|some o=>gm (n+m) o&&o.guard.isNone|none=>false)
variable{L:List Oper}{done:Array Bool}{hi j:Int}{n:Nat}
theorem kK{L:List Oper}{done:Array Bool}(down: ∀j o,L[j]? =some o→done.getD j false=true→ ∀e∈o.after,Region.binds .any e=true→done.getD e.on false=true):
  ∀(n i j:Nat),(∀o,L[i]? =some o→ ∀e∈o.after,Region.binds .any e=true→done.getD e.on false=true)→pE L n i j=true→done.getD j false=true
 |0,_,_,_,h=>by cases h
 |n+1,i,j,hi,h=>by
  unfold pE at h
  cases ho:L[i]? with
  |none=>rw [ho]at h;cases h
  |some o=>
   rw [ho]at h
   obtain⟨e,he0,hb⟩:=CP.1 h
   have he:e∈o.after:=by simpa using he0
   rw [gX,zF]at hb
   have hd:=hi o ho e he hb.1
   rcases hb.2 with h1|h1
   ·rw [←q7 h1];exact hd
   ·exact kK down n e.on j (fun p hp=>down e.on p hp hd) h1
variable{S' :SH}{d:Nat}{t:TypeId}{ts:List Ty}{w' :World}
theorem DJ.stepT{l:List Oper}(h:DJ E O G l ts done a w S){t:Ty}{v:Value}(hi:l[i]? =some o)(hd:o.dst=some d)(hdN:d<E.N.n)(hs2: ∀j p,l[j]? =some p→done.getD j false=true→p.dst=some d→i=j)(hwait: ∀e∈o.after,Region.binds .any e=true→done.getD e.on false=true)(ht:ts[i]? =some t)(hun:done.getD i true=false)(hext:kj tN w S w' S')(hsat:lI w' S')(hv:t.p S' v):DJ E O G l ts (done.setIfInBounds i true) (a.put o.dst v) w' S' :=by
 have hda:d<a.tmps.size:=by rw [h.size];exact hdN
 have hlt:i<done.size:=by rw [h.dsz];exact(kF.1 hi).1
 have hset: ∀j,(done.setIfInBounds i true).getD j false=true→j=i∨done.getD j false=true:=fun j hj=>by
  by_cases hij:i=j
  ·exact .inl hij.symm
  ·rw [zC false hij]at hj;exact .inr hj
 have hseti:(done.setIfInBounds i true).getD i false=true:=by simp [hlt]
 have hun' :done.getD i false=false:=by simp [hlt]at hun ⊢;exact hun
 refine⟨h.ext.step0 hext,hsat,h.own.ext0 hext,?_,?_,by simp [h.dsz],fun j p hj hdone e he hb=>?_,fun k u hk hno=>?_,fun j p d' u hj hdone hd' hu=>?_⟩
 ·rw [hd];simp [Act.put,h.size]
 ·rw [hd];exact h.defers
 ·rcases hset j hdone with rfl|hj'
  ·rw [hi]at hj
   have:o=p:=by simpa using hj
   subst this
   exact vh (hwait e he hb)
  ·exact vh (h.down j p hj hj' e he hb)
 ·have hne:d≠k:=fun e=>hno i o hi hseti (by rw [hd,e])
  rw [hd,wp hda,aW hne]
  exact u.mono hext.keep (h.old k u hk fun j p hj hdone=>hno j p hj (vh hdone))
 ·rw [hd,wp hda]
  rcases hset j hdone with rfl|hj'
  ·rw [hi]at hj
   have:o=p:=by simpa using hj
   subst this
   rw [hd]at hd'
   have:d=d' :=by simpa using hd'
   subst this
   rw [bq rfl]
   rw [ht]at hu
   have:t=u:=by simpa using hu
   subst this
   exact hv
  ·have hne:d≠d' :=fun e=>by
    subst e
    have:=hs2 j p hj hj' hd'
    subst this
    rw [hj']at hun';cases hun'
   rw [aW hne]
   exact u.mono hext.keep (h.new j p d' u hj hj' hd' hu)
theorem qk(h:i<done.size):done.getD i true=done.getD i false:=by simp [h]
theorem vo(h:nk done=0)(hi:i<done.size):done.getD i false=true:=by
 unfold nk at h
 rw [List.countP_eq_zero]at h
 have h2:done[i]∈done.toList:=by simp
 have:=h _ h2
 rw [←qk hi]
 simpa [hi] using this
variable{Q:Exit→Act→World→Prop}{m:Nat}{xs:List α}
theorem AS{r:Option Nat}(hc: ∀m o,n≤m→L[m]? =some o→xE L m=true)(hedge: ∀m o,L[m]? =some o→gm m o=true):
  ∀(rest:List Oper) (m:Nat) (done:Array Bool) (fuel:Nat) (a:Act) (w:World),n≤m→L.drop m=rest→done.size=L.length→(∀j,j<L.length→(done.getD j false=true↔j<m))→nk done=fuel→
   wpListIn (fw r) 0 P L.toArray Q rest a w→wpAnyIn (fw r) 0 P .any L.toArray Q fuel done a w:=by
 intro rest
 induction rest with
 |nil=>
  intro m done fuel a w hnm hdrop hsz hdone hu h
  have hlen:L.length≤m:=ub.1 hdrop
  have hr:Region.ready .any L.toArray done=[]:=by
   cases hr:Region.ready .any L.toArray done with
   |nil=>rfl
   |cons i r=>
    have hm:i∈Region.ready .any L.toArray done:=by rw [hr];exact nf ..
    obtain⟨hun,o,ho,_⟩:=uN.1 hm
    have hi:i<L.length:=by simpa using (DG.1 ho).1
    have:=(hdone i hi).2 (by omega)
    rw [qk (by omega)]at hun
    rw [hun]at this;cases this
  cases fuel with
  |zero=>exact⟨hr,h⟩
  |succ f=>exact⟨fun _=>h,fun i hi=>by rw [hr]at hi;cases hi⟩
 |cons o rest ih=>
  intro m done fuel a w hnm hdrop hsz hdone hu h
  have hm:m<L.length:=by
   rcases oZ m L.length with h' |h'
   ·exact h'
   ·rw [ub.2 h']at hdrop;cases hdrop
  have hLm:L[m]? =some o:=by
   have:=wR (xs:=L) (i:=m) (j:=0)
   rw [hdrop]at this
   simpa using this.symm
  have hmu:done.getD m true=false:=by
   have hnot: ¬(done.getD m false=true):=fun h2=>by have:=(hdone m hm).1 h2;omega
   rw [qk (by omega)]
   exact Ac _▸hnot
  have honly: ∀i∈Region.ready .any L.toArray done,i=m:=by
   intro i hi
   obtain⟨hun,p,hp,hwait⟩:=uN.1 hi
   have hp' :L[i]? =some p:=by simpa using hp
   have hil:i<L.length:=(kF.1 hp').1
   have hid: ¬i<m:=fun hlt=>by
    have h2:=(hdone i hil).2 hlt
    rw [qk (by omega)]at hun
    rw [hun]at h2;cases h2
   rcases oZ m i with hlt|hge
   ·exfalso
    have hcov:=hc i p (by omega) hp'
    unfold xE at hcov
    have hre:=pq.1 hcov m (by simpa using hlt)
    have:done.getD m false=true:=by
     refine kK (L:=L) (done:=done) (fun j q hj hjd e he hb=>?_) _ i m (fun q hq e he hb=>?_) hre
     ·have hjl:j<L.length:=(kF.1 hj).1
      have hjm:=(hdone j hjl).1 hjd
      have:=hedge j q hj
      unfold gm at this
      have:=pq.1 this e (by simpa using he)
      simp only [hb,uY,vj,tZ]at this
      exact(hdone e.on (by omega)).2 (by omega)
     ·have:q=p:=by rw [hp']at hq;simpa using hq.symm
      subst this
      exact hwait e he hb
    have:=(hdone m hm).1 this
    omega
   ·omega
  have hready:m∈Region.ready .any L.toArray done:=by
   rw [uN]
   refine⟨hmu,o,by simpa using hLm,fun e he hb=>?_⟩
   have:=hedge m o hLm
   unfold gm at this
   have:=pq.1 this e (by simpa using he)
   simp only [hb,uY,vj,tZ]at this
   exact(hdone e.on (by omega)).2 this
  cases fuel with
  |zero=>
   have:=vo hu (i:=m) (by omega)
   have:=(hdone m hm).1 this
   omega
  |succ fuel=>
   refine⟨fun hr=>(by rw [hr]at hready;cases hready),fun i hi=>?_⟩
   have:=honly i hi
   subst this
   have hnext:=fun a w=>ih (i+1) (done.setIfInBounds i true) fuel a w (by omega) (by rw [←t6,hdrop];rfl) (by simpa using hsz) (fun j hj=>by
    by_cases hij:i=j
    ·subst hij;have:i<done.size:=by omega
     simp [this]
    ·rw [zC false hij,hdone j hj];omega) (by have:=rQ hmu;omega)
   unfold wpOpIn
   have hLm' :L.toArray[i]? =some o:=by simpa using hLm
   rw [hLm']
   show if _ then _ else _
   unfold wpListIn at h
   by_cases hw:Region.wanted o (yielded L.toArray a.tmps)=true
   ·rw [bq hw]at h ⊢;exact Oper.wpIn_mono (fun a w hk=>hnext a w hk) h
   ·rw [aW hw]at h ⊢;exact⟨h.1,hnext _ _ h.2⟩
theorem Ff{l t:List Oper}(hsl:uf E.N.n [] l=true)(hlen:ts.length=l.length)(hd:DR E O G (l++t) ts 0 l)(ht:AY (l++t) l.length t.length=true)(hQ: ∀a w S,St E O (Hz l ts G) a w S→wpListIn (fw E.r) 0 E.P (l++t).toArray Q t a w):
  ∀(fuel:Nat) (done:Array Bool) (a:Act) (w:World) (S:SH),nk done=fuel→(∀j,l.length≤j→done.getD j false=false)→DJ E O G (l++t) ts done a w S→wpAnyIn (fw E.r) 0 E.P .any (l++t).toArray Q fuel done a w:=by
 have hL1: ∀i o,i<l.length→(l++t)[i]? =some o→l[i]? =some o:=fun i o hi h=>by rwa [Af hi]at h
 have hL2: ∀i o,l[i]? =some o→(l++t)[i]? =some o:=fun i o h=>by rw [Af (kF.1 h).1];exact h
 have htail: ∀m o,l.length≤m→(l++t)[m]? =some o→xE (l++t) m=true∧gm m o=true:=fun m o hm ho=>by
  have hml:m<(l++t).length:=(kF.1 ho).1
  rw [lM]at hml
  unfold AY at ht
  have:=pq.1 ht (m-l.length) (by simp;omega)
  rw [show l.length+(m-l.length)=m from by omega,ho]at this
  simp only [gX]at this
  exact⟨this.1,this.2.1⟩
 have hedge: ∀i o,(l++t)[i]? =some o→gm i o=true:=fun i o hi=>by
  rcases oZ i l.length with h|h
  ·obtain⟨_,_,_,_,_,h,_⟩:=DR.get l 0 hd i o (hL1 i o h hi)
   simpa using h
  ·exact(htail i o h hi).2
 obtain⟨hs1,hs2⟩:=vu l [] hsl
 have fin: ∀fuel done a w S,nk done=fuel→(∀j,l.length≤j→done.getD j false=false)→DJ E O G (l++t) ts done a w S→(∀i,i<l.length→done.getD i false=true)→wpAnyIn (fw E.r) 0 E.P .any (l++t).toArray Q fuel done a w:=by
  intro fuel done a w S hu hfree h hall
  refine AS (n:=l.length) (fun m o hm ho=>(htail m o hm ho).1) hedge t l.length done fuel a w (eE _) (by simp) h.dsz (fun j hj=>⟨fun hjd=>?_,fun hlt=>hall j hlt⟩) hu
   (hQ a w S ⟨h.ext,h.sat,h.own,h.size,h.defers,fun j u hj=>?_⟩)
  ·rcases oZ j l.length with h' |h'
   ·exact h'
   ·rw [hfree j h']at hjd;cases hjd
  ·rcases Dj l ts j u (fun o ho e=>by obtain⟨d,hd,_⟩:=hs1 o ho;rw [hd]at e;cases e) hlen hj with⟨i,o,h1,h2,h3⟩|⟨h1,h2⟩
   ·exact h.new i o j u (hL2 i o h1) (hall i (kF.1 h1).1) h2 h3
   ·refine h.old j u h1 fun i o ho hdn=>?_
    rcases oZ i l.length with h' |h'
    ·exact h2 o (qM (hL1 i o h' ho))
    ·rw [hfree i h']at hdn;cases hdn
 have lower: ∀done a w S i,(∀j,l.length≤j→done.getD j false=false)→DJ E O G (l++t) ts done a w S→i∈Region.ready .any (l++t).toArray done→l.length≤i→ ∀j,j<l.length→done.getD j false=true:=by
  intro done a w S i hfree h hi hge j hj
  obtain⟨hun,p,hp,hwait⟩:=uN.1 hi
  have hp' :(l++t)[i]? =some p:=by simpa using hp
  have hcov:=(htail i p hge hp').1
  unfold xE at hcov
  have hre:=pq.1 hcov j (by simp;omega)
  exact kK h.down _ i j (fun q hq e he hb=>by
   have:q=p:=by rw [hp']at hq;simpa using hq.symm
   subst this
   exact hwait e he hb) hre
 intro fuel
 induction fuel with
 |zero=>
  intro done a w S hu hfree h
  exact fin 0 done a w S hu hfree h fun i hi=>vo hu (by rw [h.dsz,lM];omega)
 |succ fuel ih=>
  intro done a w S hu hfree h
  by_cases hall: ∀i,i<l.length→done.getD i false=true
  ·exact fin _ done a w S hu hfree h hall
  have hready0: ∀m i,i<m→i<l.length→Region.ready .any (l++t).toArray done=[]→done.getD i false=true:=by
   intro m
   induction m with
   |zero=>intro i h;omega
   |succ m ihm=>
    intro i him hil hr
    have his:i<done.size:=by rw [h.dsz,lM];omega
    by_cases hdn:done.getD i true=true
    ·rw [←qk his];exact hdn
    ·exfalso
     obtain⟨o,ho⟩: ∃o,(l++t)[i]? =some o:=⟨l[i],hL2 i _ (kW hil)⟩
     have hmem:i∈Region.ready .any (l++t).toArray done:=by
      rw [uN]
      refine⟨by simpa using hdn,o,by simpa using ho,fun e he hb=>?_⟩
      have:=hedge i o ho
      unfold gm at this
      have:=pq.1 this e (by simpa using he)
      simp only [hb,uY,vj,tZ]at this
      exact ihm e.on (by omega) (by omega) hr
     rw [hr]at hmem;cases hmem
  refine⟨fun hr=>absurd (fun i hi=>hready0 (i+1) i (by omega) hi hr) hall,fun i hi=>?_⟩
  have hil:i<l.length:=by
   rcases oZ i l.length with h' |h'
   ·exact h'
   ·exact absurd (lower done a w S i hfree h hi h') hall
  obtain⟨hun,o,ho,hwait⟩:=uN.1 hi
  have ho' :(l++t)[i]? =some o:=by simpa using ho
  have hol:=hL1 i o hil ho'
  obtain⟨needs,u,h1,h2,h3,_,h5⟩:=DR.get l 0 hd i o hol
  rw [va]at h1 h3
  have hF:=h.need ho' hun hwait h2 h3
  have h6:=h5 a w S h.sat h.own hF
  have hu' :nk (done.setIfInBounds i true)=fuel:=by have:=rQ hun;omega
  obtain⟨d,hdd,hdN,_⟩:=hs1 o (qM hol)
  have huq: ∀j p,(l++t)[j]? =some p→done.getD j false=true→p.dst=some d→i=j:=fun j p hj hjd hpd=>by
   rcases oZ j l.length with h' |h'
   ·exact hs2 i j o p hol (hL1 j p h' hj) (by rw [hdd,hpd])
   ·rw [hfree j h']at hjd;cases hjd
  have hfree' : ∀j,l.length≤j→(done.setIfInBounds i true).getD j false=false:=fun j hj=>by
   rw [zC false (by omega)];exact hfree j hj
  unfold wpOpIn
  rw [ho]
  show if _ then _ else _
  by_cases hw:Region.wanted o (yielded (l++t).toArray a.tmps)=true
  ·rw [bq hw]at h6 ⊢
   refine nX (fun a' w' ⟨v,S',ha,he,hs,hv⟩=>?_) h6
   subst ha
   exact ih _ _ _ S' hu' hfree' (h.stepT ho' hdd hdN huq hwait h1 hun he hs hv)
  ·rw [aW hw]at h6 ⊢
   exact⟨fun _ _=>trivial,ih _ _ _ S hu' hfree' (h.stepT ho' hdd hdN huq hwait h1 hun (kU _ _ _) h.sat h6)⟩
theorem MR{id:Nat}{l t:List Oper}(hL:L=l++t)(hm:E.P.follows .mixedOrders=true)(hsl:uf E.N.n [] l=true)(hlen:ts.length=l.length)(ht:AY L l.length t.length=true)(hd:DR E O G L ts 0 l)(k:RG E L.toArray Q t O (Hz l ts G)):CG E Q (.region id L.toArray true) O G:=fun a w S st=>by
 subst hL
 refine wpIn_region_any hm ?_
 obtain⟨he,hs⟩:=yQ (w:=w) st.sat
 refine Ff hsl hlen hd ht (fun a w S st=>k a w S st) _ _ _ _ S ?_ (fun j _=>?_)
  ⟨st.ext.step0 he,hs,st.own.ext0 he,st.facts.size,st.facts.defers,by simp,fun j o hj hdone=>?_,fun k t hk _=>st.facts.at_ k t hk,fun j o d t hj hdone=>?_⟩
 ·unfold nk;rw [Array.toList_replicate,List.countP_replicate];simp
 ·simp [Cl];split<;>rfl
 ·simp [Cl]at hdone
  split at hdone<;>simp at hdone
 ·simp [Cl]at hdone
  split at hdone<;>simp at hdone

abbrev It(α:Type):=(σ:Type)→(α→σ→Option (Bool×σ))→σ→Option σ

variable{base:Nat}
theorem fR.weak: ∀{O:List OE},fR base B w S O→fR 0 tN w S O
 |[],_=>trivial
 |_::_,⟨h1,h2,h3⟩=>⟨⟨h1.1,fun _ _=> .inl (nU _)⟩,h2,fR.weak h3⟩
theorem wM: ∀{O:List OE},fR 0 tN w S O→(∀f∈O,∀k,f.fp k→base≤k∨B k)→fR base B w S O
 |[],_,_=>trivial
 |_::_,⟨h1,h2,h3⟩,h=>⟨⟨h1.1,h _ (nf ..)⟩,h2,wM h3 fun f hf=>h f (oO _ hf)⟩
section
variable{ty:TypeId}
end
def IX:List OE→List OE→Prop
 |[],_=>True
 |f::O,g::O' =>(∀k,f.fp k→g.fp k)∧IX O O'
 |_::_,[]=>False
theorem IX.mem: ∀{O O' :List OE},IX O O' → ∀k,(∃f∈O,f.fp k)→ ∃f∈O',f.fp k
 |f::O,g::O',⟨h1,h2⟩,k,⟨q,hq,hk⟩=>by
  rcases jW.1 hq with e|e
  ·subst e;exact⟨g,nf ..,h1 k hk⟩
  ·obtain⟨q',h3,h4⟩:=IX.mem h2 k ⟨q,e,hk⟩
   exact⟨q',oO _ h3,h4⟩

variable{O1:List OE}{ι:Type}{O2:ι→List OE}
theorem qv: ∀{O1 O2:List OE},fR base B w S (O1++O2)→fR base B w S O1∧fR base B w S O2∧ ∀e∈O1,∀f∈O2,e.apart f
 |[],_,h=>⟨trivial,h,fun _ h=>(by cases h)⟩
 |e::O1,O2,⟨h1,h2,h3⟩=>by
  obtain⟨k1,k2,k3⟩:=qv h3
  refine⟨⟨h1,fun f hf=>h2 f (CS _ hf),k1⟩,k2,fun g hg f hf=>?_⟩
  rcases jW.1 hg with rfl|hg
  ·exact h2 f (List.mem_append_right _ hf)
  ·exact k3 g hg f hf
section
section
variable{ty:TypeId}
end
end


section
variable{R:Ending→World→Prop}{ds:List Deferred}
end
def rT(t:Ty):Rp Unit where
 sz:=1
 agg:=false
 rc:=fun S cs _=> ∃v,cs=[v]∧v.oneCell' =true∧t.p S v
 mono:=fun h ⟨v,e,k,l⟩=>⟨v,e,k,t.mono h l⟩
 len:=fun⟨_,e,_⟩=>by rw [e];rfl
 one:=fun⟨v,e,k,_⟩ c hc=>by rw [e]at hc;simp at hc;subst hc;exact k
 sc:=fun _=>rfl
theorem UQ{t:Ty}{u:Unit}{v:Value}:(tD (rT t) u).p S v↔v.oneCell' =true∧t.p S v:=by
 constructor
 ·rintro⟨cs,rfl,w,rfl,h1,h2⟩;exact⟨h1,h2⟩
 ·rintro⟨h1,h2⟩;exact⟨[v],rfl,v,rfl,h1,h2⟩
variable{cap:Nat}{k' :IntKind}{lo:Int}{ys:List α}
section
variable{ty:TypeId}
theorem cE.imp{t u:Ty}(h:cE E O G o t)(k: ∀S v,t.p S v→u.p S v):cE E O G o u:=fun a w S hs ho hf=>
 oh (fun _ _ ⟨v,S',h1,h2,h3,h4⟩=>⟨v,S',h1,h2,h3,k S' v h4⟩) (h a w S hs ho hf)
theorem F1{t:Ty}{p:Operand}(ti:TI E.P U 1 bytes false z)(hp:aK E.N G p (ce (rT t) ())):cE E O G ⟨dst,.load U p,ty,pos,after,g⟩ t:=
 (am (r:=rT t) (x:=()) ti rfl rfl hp).imp fun _ _ h=>(UQ.1 h).2

theorem Qo:rV.rc S [.slice none 0 0] (ax none 0 0):=⟨rfl,rfl⟩
theorem EX{N:Fr}(h:aK N G x (tV (ax l cap n))):aK N G x (tD rV (ax l cap n)):=fun S a hf=>xX.2 ⟨h S a hf,by cases l<;>rfl⟩
theorem tM{p:Operand}(ti:TI E.P U 1 bytes false z)(hm:bx rV T b (ax l cap n)∈O)(hp:aK E.N G p (tV (aL b 0))):
  cE E O G ⟨dst,.load U p,ty,pos,after,g⟩ (tV (ax l cap n)):=(br (q:=rV) (get:=fun x=>x) ti rfl rfl cA hm hp).imp fun _ _ h=>(xX.1 h).1

def eP{α:Type}(xs:List α)(lo hi:Int):Option (List α):=if 0≤lo∧lo≤hi∧hi≤(xs.length:Int)then some ((xs.take hi.toNat).drop lo.toNat)else none
theorem gu(h:eP xs lo hi=some ys): ∃l m:Nat,lo=l∧hi=m∧l≤m∧m≤xs.length∧ys=(xs.take m).drop l:=by
 unfold eP at h
 split at h
 ·rename_i hc
  exact⟨lo.toNat,hi.toNat,by omega,by omega,by omega,by omega,by simpa using h.symm⟩
 ·cases h
theorem A1{a:Option Addr}{l:Nat}(h:C1 r S a xs)(hl:l≤m)(hm:m≤xs.length)(hc:xs.length≤cap):
  C1 r S (if cap=l then a else a.map (·.add (l*r.sz))) ((xs.take m).drop l):=by
 by_cases hlm:l=m
 ·left;subst hlm;simp
 right
 rcases h with h|⟨b,off,c,T,fr,e1,e2,e3⟩
 ·subst h;simp at hm;omega
 subst e1
 have hne: ¬(cap=l):=by omega
 refine⟨b,off+l*r.sz,c,T,fr,?_,e2,?_⟩
 ·rw [aW hne];simp [Addr.add]
 have hlen:((xs.take m).drop l).length=m-l:=by simp;omega
 have e4:xs=(xs.take m).take l++((xs.take m).drop l++xs.drop m):=by
  rw [←nh,tt,tt]
 have h1:((xs.take m).take l).length=l:=by simp;omega
 rw [e4]at e3
 have h2:=(pe e3).2
 have h3:=(pe h2).1
 rw [h1]at h3
 rw [hlen]at h3 ⊢
 rw [←e4]at h3
 rw [zE,z8,t6]at h3
 have hmin:min ((m-l)*r.sz) (xs.length*r.sz-l*r.sz)=(m-l)*r.sz:=by
  rw [←Nat.sub_mul];exact xI (xK _ (by omega))
 rwa [hmin]at h3
theorem no{n:Int}{y:Nat}{code:BoundsCode}(h0:0≤n)(h1:n≤y):(Instr.sliceBound (.int k n) y code).run P w= .ok n.toNat w:=by
 simp [Instr.sliceBound,asIntOf,h0,h1]
theorem HB{hi:Operand}(ht:E.P.underlying t=some (.slice T))(ti:TI E.P T sz bytes agg z)(hsz:r.sz=sz)(hx:aK E.N G x (tD (gB r) xs))(hhi:aK E.N G hi (tD (rI k') j))(h:eP xs 0 j=some ys):cE E O G ⟨dst,.slice t x none (some hi) none,ty,pos,after,g⟩ (tD (gB r) ys):=
 .of_pure fun a w S _ _ hf=>by
  subst hsz
  obtain⟨ad,cap,h1,h2,h3,h4⟩:=m4.1 (hx S a hf)
  have h6:=eO.1 (hhi S a hf)
  obtain⟨l,m,hl,rfl,h7,h8,rfl⟩:=gu h
  have hl0:l=0:=by omega
  subst hl0
  have hlen:((xs.take m).drop 0).length=m-0:=by simp;omega
  refine⟨.slice (if cap=0 then ad else ad.map (·.add (0*r.sz))) (m-0) (cap-0),?_,m4.2 ⟨_,cap-0,by rw [hlen],by omega,by omega,A1 h4 h7 h8 h2⟩⟩
  simp [execOp,Instr.sliceAt,h1,h6,Instr.slice,jQ ht,Instr.sliceBounds,no (k:=k') (n:=(m:Int)) (y:=cap) (by omega) (by omega),ti.sizeOf]
end
theorem q6{id:Nat}(m:Nat)(hm:E.P.follows .mixedOrders=true)(hsl:uf E.N.n [] (L.take m)=true)(hlen:ts.length=(L.take m).length)(ht:AY L (L.take m).length (L.drop m).length=true)(hd:DR E O G L ts 0 (L.take m))(k:RG E L.toArray Q (L.drop m) O (Hz (L.take m) ts G)):CG E Q (.region id L.toArray true) O G:=MR (tt m L).symm hm hsl hlen ht hd k

def ko(P:Program){α:Type} [DecidableEq α](t:TypeId)(r:Rp α)(n:Nat):Prop:=
 ∀(S:SH) (cs ds:List Value) (x y:α) (d:Nat) (w:World),r.rc S cs x→r.rc S ds y→(Op.equalIn (d+n) t (r.val cs) (r.val ds)).run P w= .ok (decide (x=y)) w
theorem qI(h:P.underlying t=some (.int k')):ko P t (rI k) (n+1):=fun S cs ds x y d w hx hy=>by
 have h1:cs=[.int k x]:=hx
 have h2:ds=[.int k y]:=hy
 subst h1 h2
 have:(Op.equalIn (d+n+1) t (.int k x) (.int k y)).run P w= .ok (x==y) w:=by simp [Op.equalIn,jQ h]
 have e:(x==y)=decide (x=y):=by by_cases h:x=y<;>simp [h]
 rw [e]at this
 exact this
theorem Mt(h:P.underlying t=some .bool):ko P t rB (n+1):=fun S cs ds x y d w hx hy=>by
 have h1:cs=[.bool x]:=hx
 have h2:ds=[.bool y]:=hy
 subst h1 h2
 have:=run_equalIn_bool' (P:=P) w (d+n) t x y h
 simp only [Rp.val,rB,List.headD_cons,vb,qK]
 rw [show d+(n+1)=d+n+1 from rfl,this]
 cases x<;>cases y<;>rfl
theorem O4(h:P.underlying t=some .string):ko P t rS (n+1):=fun S cs ds x y d w hx hy=>by
 have h1:cs=[.string ⟨x.toArray⟩]:=hx
 have h2:ds=[.string ⟨y.toArray⟩]:=hy
 subst h1 h2
 have:=run_equalIn_string (P:=P) w (d+n) t ⟨x.toArray⟩ ⟨y.toArray⟩ h
 simp only [Rp.val,rS,List.headD_cons,vb,qK]
 rw [show d+(n+1)=d+n+1 from rfl,this]
 simp only [ByteArray.toList_eq]
 by_cases e:x=y<;>simp [e]
abbrev Fd:=TypeId×Nat×Bool
def HS(f:Field):Fd:=(f.type,f.offset,f.name== "_")
def Ko(d:Nat)(xs ys:Array Value):List Fd→Sem Bool
 |[]=>pure true
 |f::fs=>
  if f.2.2=false then do
   let a←part f.1 xs f.2.1
   let b←part f.1 ys f.2.1
   let r←Op.equalIn d f.1 a b
   if(!r)=true then pure false else Ko d xs ys fs
  else Ko d xs ys fs
theorem Gz(d:Nat)(xs ys:Array Value): ∀fs:List Field,Op.eqFields d xs ys fs=Ko d xs ys (fs.map HS)
 |[]=>rfl
 |f::fs=>by
  unfold Op.eqFields Ko
  rw [Gz d xs ys fs]
  by_cases h:f.name= "_"
  ·have e:((HS f).2.2=false)=False:=by simp [HS,h]
   simp only [CO,e,qK]
   rw [aW (by simpa using h)]
  ·have e:((HS f).2.2=false)=True:=by simp [HS,h]
   simp only [CO,e,ow]
   rw [bq (by simpa using h)]
   rfl
def DA(P:Program){α:Type}(r:Rp α)(n:Nat)(fs:List Fd)(c:α→α→Bool):Prop:=
 ∀(S:SH) (cs ds:List Value) (x y:α) (d:Nat) (w:World),r.rc S cs x→r.rc S ds y→(Ko (d+n) cs.toArray ds.toArray fs).run P w= .ok (c x y) w
theorem DA.nil:DA P r n [] (fun _ _=>true):=fun _ _ _ _ _ _ _ _ _=>rfl
theorem rt{get:α→β}(ti:TI P t sz bytes agg z)(hsz:q.sz=sz)(hag:q.agg=agg)(hf:lK r off q get){cs:List Value}{x:α}(hx:r.rc S cs x)(w:World):
  (part t cs.toArray off).run P w= .ok (q.val ((cs.drop off).take q.sz)) w:=by
 have h:=hf S cs x hx
 have hl:=q.len h
 subst hsz hag
 unfold part
 by_cases ha:q.agg=true
 ·have e1:=ti.isAgg w
  simp only [s4,e1,ha,tq,ow,ti.sizeOf,Sem.run_pure]
  unfold Rp.val
  rw [bq ha]
  congr 2
  apply Array.ext'
  simp
 ·rw [Ac]at ha
  have e1:=ti.isAgg w
  have hs1:=q.sc ha
  simp only [s4,e1,ha,tq,vb,qK]
  rw [hs1]at hl ⊢
  obtain⟨v,hv⟩:=List.length_eq_one_iff.1 hl
  have hc:cs[off]? =some v:=by
   have:((cs.drop off).take 1)[0]? =some v:=by rw [hv];rfl
   rw [yV (by omega),wR]at this
   simpa using this
  unfold Rp.val
  rw [hv,ha]
  simp [hc]
theorem DA.cons [DecidableEq β]{get:α→β}{t:Nat}{fs:List Fd}{c:α→α→Bool}(ti:TI P t sz bytes agg z)(hsz:q.sz=sz)(hag:q.agg=agg)(hf:lK r off q get)(he:ko P t q n)(hr:DA P r n fs c):
  DA P r n ((t,off,false)::fs) (fun x y=>decide (get x=get y)&&c x y):=fun S cs ds x y d w hx hy=>by
 have h1:=rt ti hsz hag hf hx w
 have h2:=rt ti hsz hag hf hy w
 have h3:=he S _ _ _ _ d w (hf S cs x hx) (hf S ds y hy)
 unfold Ko
 simp only [ow,s4,h1,h2,h3,tq]
 by_cases e:get x=get y
 ·simp only [e,decide_true,uY,vb,qK,mZ]
  exact hr S cs ds x y d w hx hy
 ·simp [e]
theorem xA [DecidableEq α]{t:Nat}{fs:List Fd}{c:α→α→Bool}(ht:(P.underlying t).map (fun d=>match d with| .struct l=>(true,l.toList.map HS)|_=>(false,[]))=some (true,fs))(hp:P.stoodInHeld t=false)(ha:r.agg=true)(hr:DA P r n fs c)(hc: ∀x y,c x y=decide (x=y)):ko P t r (n+1):=fun S cs ds x y d w hx hy=>by
 obtain⟨l,h1,h2⟩: ∃l,P.underlying t=some (.struct l)∧l.toList.map HS=fs:=by
  cases hu:P.underlying t with
  |none=>rw [hu]at ht;cases ht
  |some d=>
   rw [hu]at ht
   cases d<;>simp at ht
   exact⟨_,rfl,ht⟩
 have hfo:P.fieldsOf t=l:=by unfold Program.fieldsOf;rw [h1]
 have:=run_equalIn_struct (P:=P) w (d+n) t cs.toArray ds.toArray (by rw [hfo];exact h1) hp
 rw [ro ha,ro ha,show d+(n+1)=d+n+1 from rfl,this,hfo,Gz,h2,hr S cs ds x y d w hx hy,hc]
theorem jG [DecidableEq α](h:ko P t r n)(m:Nat):ko P t r (m+n):=fun S cs ds x y d w hx hy=>by
 have:=h S cs ds x y (d+m) w hx hy
 rwa [Nat.add_assoc]at this
theorem G0.of [DecidableEq α](hg:P.eqGuardType P.depth t=false)(h:ko P t r 20):G0 P t r:=⟨hg,fun S cs ds x y d w hx hy=>h S cs ds x y d w hx hy⟩

theorem cX{l:List α}{e:α}(h:xs.drop i=e::l):decide ((i:Int)<(xs.length:Int))=true:=by
 have:i<xs.length:=by
  rcases oZ i xs.length with h' |h'
  ·exact h'
  ·rw [yU h']at h;cases h
 simp;omega
theorem de(h:xs.drop i=[]):decide ((i:Int)<(xs.length:Int))=false:=by
 have:=ub.1 h
 simp;omega
theorem cx{l:List α}{e:α}(h:xs.drop i=e::l):xs.drop (i+1)=l:=by
 rw [←t6,h];rfl
theorem cS{l:List α}{e:α}(h:xs.drop i=e::l):gj xs (i:Int)=some e:=by
 rw [dJ]
 have:=wR (xs:=xs) (i:=i) (j:=0)
 rw [h]at this
 simpa using this.symm
theorem cy{l:List α}{e:α}(h:xs.drop i=e::l)(hN:xs.length≤maxLen):i<9223372036854775807:=by
 have:=of_decide_eq_true (cX h)
 simp only [maxLen]at hN
 omega
theorem Nz{k:Nat}(h:N-i=k+1):decide ((i:Int)<(N:Int))=true:=by simp;omega
theorem NA(h:N-i=0):decide ((i:Int)<(N:Int))=false:=by simp;omega
theorem LL{k:Nat}(h:N-i=k+1):N-(i+1)=k:=by omega
theorem LM{k:Nat}(h:N-i=k+1)(hN:N≤9223372036854775807):i<9223372036854775807:=by omega
theorem SK(h:n≤maxLen):n≤9223372036854775807:=by simp only [maxLen]at h;omega
variable{ix:Operand}{mm:Bool}{ops:Array Oper}{zs:List α}
section
variable{e:Exit}
section
variable{ty:TypeId}
theorem ww{one:Operand}{xt yt:TypeId}(hi:i<9223372036854775807)(hx:aK E.N G x (tD (rI .i64) (i:Int)))(h1:aK E.N G one (tD (rI .i64) 1)):
  cE E O G ⟨dst,.binOp .add xt x one yt,ty,pos,after,g⟩ (tD (rI .i64) ((i+1:Nat):Int)):=by
 have e:IntKind.i64.wrap ((i:Int)+1)=((i+1:Nat):Int):=by
  rw [Ab];omega
 have:=dI (E:=E) (O:=O) (dst:=dst) (ty:=ty) (pos:=pos) (after:=after) (g:=g) (xt:=xt) (yt:=yt) hx h1
 rwa [e]at this
end
theorem yR(hm:lP mm r T l cap xs∈O)(h:xs.length≤maxLen→CG E Q c O G):CG E Q c O G:=fun a w S st=>by
 refine h ?_ a w S st
 obtain⟨cells,h1,_⟩:=(st.own.mem _ hm).1
 cases l with
 |none=>have:=h1.1;omega
 |some b=>obtain⟨cur,_,g2,g3,_⟩:=h1;exact vf g2 g3
theorem St.dataAt{k:Nat}(h:St E O G a w S)(hk:d9 G k=some (tO r l cap xs)):St E O ((k,tD (gB r) xs)::G) a w S:=h.cons (h.facts.at_ k _ hk).2
theorem KL(k:Nat)(hk:d9 G k=some (tO r l cap xs))(h:CG E Q c O ((k,tD (gB r) xs)::G)):CG E Q c O G:=fun a w S st=>h a w S (st.dataAt hk)
theorem fT(k:Nat)(hk:d9 G k=some (tO r l cap xs))(h:AT E Q e O ((k,tD (gB r) xs)::G)):AT E Q e O G:=fun a w S st=>h a w S (st.dataAt hk)
def xB(l:Option Nat)(off:Nat):Value:=
 match l with
 |none=> .pointer none
 |some b=>aL b off
theorem vE(h:yJ mm r T l cap xs w S){e:α}(hi:xs[i]? =some e):
  ∃b cur,l=some b∧w.heap[b]? =some (.cells cur T (0,0))∧xs.length≤cap∧cur.size=cap*r.sz∧r.rc S ((cur.toList.drop (i*r.sz)).take r.sz) e:=by
 obtain⟨cells,h1,h2,_⟩:=h
 have hlt:=(kF.1 hi).1
 cases l with
 |none=>have:=h1.1;omega
 |some b=>
  obtain⟨cur,g1,g2,g3,g4,g5⟩:=h1
  refine⟨b,cur,rfl,g1,g2,g4,?_⟩
  have h3:=yk h2 hi
  rw [←g5,zE,z8]at h3
  have h4:i*r.sz+r.sz≤xs.length*r.sz:=by
   rw [←Nat.succ_mul];exact xK _ hlt
  rwa [xI (by omega)]at h3
theorem mp{i:Int}{e:α}(h:gj xs i=some e):0≤i∧xs[i.toNat]? =some e:=by
 unfold gj at h
 split at h
 ·exact⟨by assumption,h⟩
 ·cases h
section
variable{ty:TypeId}
theorem eh{e:TypeId}{i:Int}(ht:E.P.underlying t=some (.slice e))(ti:TI E.P e sz bytes agg z)(hm:lP mm r U l cap xs∈O)(hx:aK E.N G x (tV (ax l cap n)))(hi:aK E.N G ix (tD (rI k) i))(hy:gj xs i=some y)(hn:n=xs.length:=by rfl):
  cE E O G ⟨dst,.indexAddr t x ix,ty,pos,after,g⟩ (tV (xB l (i.toNat*sz+0))):=
 .of_pure fun a w S _ ho hf=>by
  subst hn
  have h1:a.eval x=ax l cap xs.length:=hx S a hf
  have h3:a.eval ix= .int k i:=eO.1 (hi S a hf)
  obtain⟨h0,hy'⟩:=mp hy
  obtain⟨b,cur,rfl,_⟩:=vE (ho.mem _ hm).1 hy'
  have hlt:i.toNat<xs.length:=(kF.1 hy').1
  refine⟨_,?_,rfl⟩
  have hc:0≤i∧i<(xs.length:Int):=⟨h0,by omega⟩
  simp [execOp,h1,h3,ax,Instr.indexAt,asIntOf,jQ ht,hc,ti.sizeOf,jf,xB,aL]
theorem jc{get:α→β}{foff:Nat}{i:Int}{p:Operand}(ti:TI E.P T sz bytes agg z)(hsz:q.sz=sz)(hag:q.agg=agg)(hget:lK r foff q get)(hoff:Nat.ble (foff+q.sz) r.sz=true)(hm:lP mm r U l cap xs∈O)(hy:gj xs i=some y)(hp:aK E.N G p (tV (xB l (i.toNat*r.sz+foff)))):cE E O G ⟨dst,.load T p,ty,pos,after,g⟩ (tD q (get y)):=
 .of_pure fun a w S _ ho hf=>by
  have h1:a.eval p=xB l (i.toNat*r.sz+foff):=hp S a hf
  obtain⟨h0,hy'⟩:=mp hy
  obtain⟨b,cur,rfl,hb,_,_,h6⟩:=vE (ho.mem _ hm).1 hy'
  have hoff' :=rm hoff
  have h7:=hget S _ _ h6
  rw [zE,z8,t6,xI (by omega)]at h7
  refine⟨_,?_,_,rfl,h7⟩
  simp [execOp,h1,xB,aL,Instr.loadAt,Instr.sureAddr,lu ti hb hsz hag h7]
end
theorem Ax{α:Type}{r:Rp α}{S:SH}{y:α}{c:List Value}(hc:r.rc S c y): ∀{xs:List α} {i:Nat} {cs:List Value},qT r S cs xs→i<xs.length→qT r S (cs.take (i*r.sz)++c++cs.drop (i*r.sz+r.sz)) (xs.set i y)
 |[],_,_,_,h=>by simp at h
 |x::xs,0,cs,⟨a,b,e,h1,h2⟩,_=>by
  have hl:=r.len h1
  refine⟨c,b,?_,hc,h2⟩
  rw [e,←hl];simp
 |x::xs,i+1,cs,⟨a,b,e,h1,h2⟩,h=>by
  have hl:=r.len h1
  have ih:=Ax hc h2 (i:=i) (by simpa using h)
  refine⟨a,_,?_,h1,ih⟩
  have e1:(i+1)*r.sz=a.length+i*r.sz:=by rw [hl,u9];omega
  rw [e,e1,List.take_length_add_append,Nat.add_assoc,List.drop_length_add_append]
  simp
theorem wJ{set:α→β→α}{foff:Nat}{v:β}{i:Int}{p:Operand}{ty:TypeId}(ti:TI E.P T sz bytes agg z)(hsz:q.sz=sz)(hset:km r foff q set)(hoff:Nat.ble (foff+q.sz) r.sz=true)(hy:gj xs i=some y)(hz:xs.set i.toNat (set y v)=zs)(hp:aK E.N G p (tV (xB l (i.toNat*r.sz+foff))))(hx:aK E.N G x (tD q v))(k:RG E ops Q rest (df r U l cap zs::O) G):
  RG E ops Q (⟨none,.store T p x,ty,pos,after,none⟩::rest) (df r U l cap xs::O) G:= .of rfl fun a w S st=>by
 subst hz
 have h1:a.eval p=xB l (i.toNat*r.sz+foff):=hp S a st.facts
 obtain⟨ds,h2,h3⟩:=hx S a st.facts
 obtain⟨h0,hy'⟩:=mp hy
 have hlt:i.toNat<xs.length:=(kF.1 hy').1
 obtain⟨cells,hraw,hrc,hno⟩:=st.own.1.1
 obtain⟨b,cur,rfl,hb,hle,hcs,h6⟩:=vE st.own.1.1 hy'
 obtain⟨cur',hb',hle',hmax,hcs',hct⟩:=hraw
 have hcc:cur' =cur:=by rw [hb]at hb';injection hb' with e;injection e with e1;exact e1.symm
 subst hcc
 have hno' :S b=none:=hno b rfl
 have hoff' :=rm hoff
 have hl3:=q.len h3
 have hmul:i.toNat*r.sz+r.sz≤xs.length*r.sz:=by rw [←Nat.succ_mul];exact xK _ hlt
 have hmul2:xs.length*r.sz≤cur'.size:=by rw [hcs];exact xK _ hle
 obtain⟨w',hr,e1,e2,e3,e4,e5,e6⟩:=jw ti hsz h3 hb (off:=i.toNat*r.sz+foff) (by omega)
 have hrun:(execOp a.eval ⟨none,.store T p x,ty,pos,after,none⟩).run E.P w= .ok .skip w' :=by
  simp [execOp,h1,h2,Instr.storeAt,xB,aL,Instr.sureAddr,hr]
 refine⟨fun c h=>(by cases h),?_⟩
 rw [hrun]
 have hnew:=hset S _ _ _ _ h6 h3
 have hrc' :=Ax hnew hrc hlt
 have hcl:=kL hrc
 have hcells:(cur'.toList.take (i.toNat*r.sz+foff)++ds++cur'.toList.drop (i.toNat*r.sz+foff+q.sz)).take (xs.length*r.sz)=
   cells.take (i.toNat*r.sz)++(((cur'.toList.drop (i.toNat*r.sz)).take r.sz).take foff++ds++((cur'.toList.drop (i.toNat*r.sz)).take r.sz).drop (foff+q.sz))++cells.drop (i.toNat*r.sz+r.sz):=by
  subst hct
  apply List.ext_getElem?
  intro j
  simp only [List.getElem?_take,List.getElem?_append,wR,Cg,AM,lM,EZ]
  rcases oZ j (xs.length*r.sz)with hj|hj
  ·simp only [hj,ow]
   rcases oZ j (i.toNat*r.sz)with hj1|hj1
   ·rw [bq (by omega),bq (by omega),bq (by omega),bq (by omega),bq (by omega),bq (by omega)]
   ·rcases oZ j (i.toNat*r.sz+foff)with hj2|hj2
    ·rw [bq (by omega),bq (by omega),bq (by omega),bq (by omega),aW (by omega),bq (by omega),bq (by omega),bq (by omega),bq (by omega)]
     congr 1;omega
    ·rcases oZ j (i.toNat*r.sz+foff+q.sz)with hj3|hj3
     ·rw [bq (by omega),aW (by omega),bq (by omega),aW (by omega),bq (by omega),aW (by omega)]
      congr 1;omega
     ·rw [aW (by omega)]
      rcases oZ j (i.toNat*r.sz+r.sz)with hj4|hj4
      ·rw [bq (by omega),aW (by omega),aW (by omega),bq (by omega)]
       congr 1;omega
      ·rw [aW (by omega),bq (by omega)]
       congr 1;omega
  ·rw [aW (by omega),aW (by omega),aW (by omega)]
 obtain⟨g1,g2,g3⟩:=oe (O:=O) st.sat (df r U (some b) cap xs) (df r U (some b) cap (xs.set i.toNat (set y v))) st.own (fun k=>⟨fun h=>(qL h).symm,fun h=>by rw [h];rfl⟩) (fun k=>⟨fun h=>(qL h).symm,fun h=>by rw [h];rfl⟩) ⟨e1,e2,e3,e4.1,e4.2⟩ e6
  ⟨_,⟨_,e5,by rw [Aa];exact hle,hmax,by simp only [CR,lM,Cg,AM,EZ];omega,by rw [Aa];exact hcells⟩,hrc',fun k hk=>by rw [←qL hk];exact hno'⟩ hno'
 exact k _ _ S ⟨st.ext.step g1 (fun c hc=>st.own.1.2 c (by rw [hc];rfl)),g2,g3,st.facts⟩

def m0(sz:Nat)(l:Option Nat)(cap lo n:Nat):Value:=
 match l with
 |none=> .slice none 0 0
 |some b=> .slice (some ⟨b,if cap=lo then 0 else lo*sz,none⟩) n (cap-lo)
section
variable{ty:TypeId}
theorem C8(h:yJ mm r U l cap xs w S): ∃ad c,ax l cap xs.length= .slice ad xs.length c∧xs.length≤c∧ad=l.map (fun b=>⟨b,0,none⟩)∧(l=none→c=0∧xs=[])∧(l≠none→c=cap):=by
 obtain⟨cells,h1,_⟩:=h
 cases l with
 |none=>
  have hx:xs=[]:=tv h1.1
  subst hx
  exact⟨none,0,rfl,eE _,rfl,fun _=>⟨rfl,rfl⟩,fun h=>absurd rfl h⟩
 |some b=>
  obtain⟨cur,_,g2,_⟩:=h1
  exact⟨_,cap,rfl,g2,rfl,fun h=>(by cases h),fun _=>rfl⟩
theorem ph{hi:Operand}(ht:E.P.underlying t=some (.slice T))(ti:TI E.P T sz bytes agg z)(hsz:r.sz=sz)(hm:lP mm r U l cap xs∈O)(hx:aK E.N G x (tV (ax l cap n)))(hhi:aK E.N G hi (tD (rI k') j))(h:eP xs 0 j=some ys)(hn:n=xs.length:=by rfl):cE E O G ⟨dst,.slice t x none (some hi) none,ty,pos,after,g⟩ (tV (ax l cap ys.length)):=
 .of_pure fun a w S _ ho hf=>by
  subst hsz
  subst hn
  have h1:a.eval x=ax l cap xs.length:=hx S a hf
  obtain⟨ad,c,h2,h3,h4,h5,h5'⟩:=C8 (ho.mem _ hm).1
  have h6:=eO.1 (hhi S a hf)
  obtain⟨lo,m,hl,rfl,h7,h8,rfl⟩:=gu h
  have hl0:lo=0:=by omega
  subst hl0
  have hlen:((xs.take m).drop 0).length=m:=by simp;omega
  refine⟨_,?_,rfl⟩
  rw [h2]at h1
  have hr:(execOp a.eval ⟨dst,.slice t x none (some hi) none,ty,pos,after,g⟩).run E.P w= .ok (.value (.slice ad m c)) w:=by
   simp [execOp,Instr.sliceAt,h1,h6,Instr.slice,jQ ht,Instr.sliceBounds,no (k:=k') (n:=(m:Int)) (y:=c) (by omega) (by omega),ti.sizeOf]
   cases ad<;>simp [Addr.add]
  rw [hr,hlen,h4]
  cases l with
  |none=>
   obtain⟨rfl,rfl⟩:=h5 rfl
   have:m=0:=by simpa using h8
   subst this;rfl
  |some b=>rw [h5' (by simp)];rfl
theorem pg{lo:Operand}{i:Int}(ht:E.P.underlying t=some (.slice T))(ti:TI E.P T sz bytes agg z)(hsz:r.sz=sz)(hm:lP mm r U l cap xs∈O)(hx:aK E.N G x (tV (ax l cap n)))(hlo:aK E.N G lo (tD (rI k) i))(h:eP xs i (xs.length:Int)=some ys)(hn:n=xs.length:=by rfl):cE E O G ⟨dst,.slice t x (some lo) none none,ty,pos,after,g⟩ (tV (m0 sz l cap i.toNat ys.length)):=
 .of_pure fun a w S _ ho hf=>by
  subst hsz
  subst hn
  have h1:a.eval x=ax l cap xs.length:=hx S a hf
  obtain⟨ad,c,h2,h3,h4,h5,h5'⟩:=C8 (ho.mem _ hm).1
  have h6:=eO.1 (hlo S a hf)
  obtain⟨lo',m,rfl,hm',h7,h8,rfl⟩:=gu h
  have hm2:m=xs.length:=by omega
  subst hm2
  have hlen:((xs.take xs.length).drop lo').length=xs.length-lo' :=by simp
  refine⟨_,?_,rfl⟩
  rw [h2]at h1
  have hr:(execOp a.eval ⟨dst,.slice t x (some lo) none none,ty,pos,after,g⟩).run E.P w= .ok (.value (.slice (if c=lo' then ad else ad.map (·.add (lo' *r.sz))) (xs.length-lo') (c-lo'))) w:=by
   simp [execOp,Instr.sliceAt,h1,h6,Instr.slice,jQ ht,Instr.sliceBounds,no (k:=k) (n:=(lo' :Int)) (y:=xs.length) (by omega) (by omega),ti.sizeOf]
  rw [hr,hlen,h4]
  cases l with
  |none=>
   obtain⟨rfl,rfl⟩:=h5 rfl
   have:lo' =0:=by simpa using h7
   subst this;rfl
  |some b=>
   rw [h5' (by simp)]
   unfold m0
   simp only [AJ,Option.map_some,jf,va]
   split<;>rfl
theorem xh{i:Int}(h:eP xs lo hi=some ys)(hy:gj ys i=some y):gj xs (lo+i)=some y∧0≤lo∧0≤i:=by
 obtain⟨l,m,rfl,rfl,h1,h2,rfl⟩:=gu h
 obtain⟨h0,h3⟩:=mp hy
 refine⟨?_,by omega,h0⟩
 obtain⟨j,rfl⟩: ∃j:Nat,i=j:=⟨i.toNat,by omega⟩
 rw [show((l:Int)+(j:Int))=((l+j:Nat):Int)from by omega,dJ]
 rw [wR,AJ]at h3
 have hlt:l+j<m:=by
  have:=(kF.1 h3).1
  simp at this;omega
 rwa [yV hlt]at h3
theorem w6{e:TypeId}{i:Int}(ht:E.P.underlying t=some (.slice e))(ti:TI E.P e sz bytes agg z)(hsz:r.sz=sz)(hm:lP mm r U l cap xs∈O)(hs:eP xs lo hi=some ys)(hx:aK E.N G x (tV (m0 sz l cap lo.toNat ys.length)))(hi' :aK E.N G ix (tD (rI k) i))(hy:gj ys i=some y):
  cE E O G ⟨dst,.indexAddr t x ix,ty,pos,after,g⟩ (tV (xB l ((lo+i).toNat*sz+0))):=
 .of_pure fun a w S _ ho hf=>by
  subst hsz
  have h1:a.eval x=m0 r.sz l cap lo.toNat ys.length:=hx S a hf
  have h3:a.eval ix= .int k i:=eO.1 (hi' S a hf)
  obtain⟨hxi,hl0,hi0⟩:=xh hs hy
  obtain⟨_,hx'⟩:=mp hxi
  obtain⟨b,cur,rfl,_,hle,_⟩:=vE (ho.mem _ hm).1 hx'
  have hlt:i.toNat<ys.length:=(kF.1 (mp hy).2).1
  have hlt2:(lo+i).toNat<xs.length:=(kF.1 hx').1
  have hne: ¬(cap=lo.toNat):=by omega
  refine⟨_,?_,rfl⟩
  have hc:0≤i∧i<(ys.length:Int):=⟨hi0,by omega⟩
  have e1:(lo+i).toNat=lo.toNat+i.toNat:=by omega
  simp [execOp,h1,h3,m0,hne,Instr.indexAt,asIntOf,jQ ht,hc,ti.sizeOf,jf,xB,aL,e1,u9]
theorem IL{e:TypeId}(ht:E.P.underlying t=some (.slice e))(hm:lP mm r U l cap xs∈O)(hs:eP xs lo hi=some ys)(hx:aK E.N G x (tV (m0 sz l cap lo.toNat ys.length))):
  cE E O G ⟨dst,.call ⟨.builtin .len,#[x],#[t]⟩,ty,pos,after,g⟩ (tD (rI .i64) (ys.length:Int)):=
 .of_pure fun a w S _ ho hf=>by
  have h1:a.eval x=m0 sz l cap lo.toNat ys.length:=hx S a hf
  obtain⟨ad,c,h3⟩: ∃ad c,m0 sz l cap lo.toNat ys.length= .slice ad ys.length c:=by
   cases l with
   |none=>
    obtain⟨_,h2,_⟩:=(ho.mem _ hm).1
    have hx0:xs=[]:=tv h2.1
    subst hx0
    obtain⟨l',m,_,_,_,h8,rfl⟩:=gu hs
    exact⟨none,0,by simp [m0]⟩
   |some b=>exact⟨_,_,rfl⟩
  refine⟨.int .i64 ys.length,?_,eO.2 rfl⟩
  simp [execOp,resolve,invoke,builtin,Builtin.len_,jQ ht,h1,h3,goInt]
end
theorem Jk(h:eP xs 0 j=some ys)(k:yJ false r U l cap xs w S):yJ false r U l cap ys w S:=by
 obtain⟨lo,m,hl,rfl,h7,h8,rfl⟩:=gu h
 have hl0:lo=0:=by omega
 subst hl0
 obtain⟨cells,h1,h2,h3⟩:=k
 have hlen:((xs.take m).drop 0).length=m:=by simp;omega
 have h4:qT r S (cells.take (m*r.sz)) (xs.take m):=by
  have e:xs=xs.take m++xs.drop m:=(tt _ _).symm
  rw [e]at h2
  have:=(pe h2).1
  rwa [show(xs.take m).length=m from by simp;omega]at this
 refine⟨cells.take (m*r.sz),?_,by simpa using h4,fun b hb=>h3 b hb⟩
 rw [hlen]
 cases l with
 |none=>
  obtain⟨g1,g2⟩:=h1
  exact⟨by omega,by rw [g2];simp⟩
 |some b=>
  obtain⟨cur,g1,g2,g3,g4,g5⟩:=h1
  exact⟨cur,g1,by omega,g3,g4,by rw [←g5,z8,xI (xK _ h8)]⟩
theorem St.cut(h:eP xs 0 j=some ys)(st:St E (df r U l cap xs::O) G a w S):St E (df r U l cap ys::O) G a w S:=
 st.own_map fun ho=>⟨⟨Jk h ho.1.1,ho.1.2⟩,ho.2.1,ho.2.2⟩
theorem EN(h:eP xs 0 j=some ys)(k:RG E ops Q rest (df r U l cap ys::O) G):RG E ops Q rest (df r U l cap xs::O) G:=fun a w S st=>k a w S (st.cut h)
end

variable{x0 x1 x2 x3 x4 x5:OE}
section
variable{e:Exit}
theorem B2{O:List OE}(h:fR base B w S (x0::x1::x2::x3::x4::x5::O)):fR base B w S (x5::x0::x1::x2::x3::x4::O):=
 (yN h uJ (fun f hf=>by simp only [jW]at hf ⊢;rcases hf with h|h|h|h|h|h<;>simp [h])).swap
theorem Dz(h:RG E ops Q rest (x5::x0::x1::x2::x3::x4::O) G):RG E ops Q rest (x0::x1::x2::x3::x4::x5::O) G:=fun a w S st=>h a w S (st.own_map B2)
theorem mY(h:AT E Q e (x5::x0::x1::x2::x3::x4::O) G):AT E Q e (x0::x1::x2::x3::x4::x5::O) G:=fun a w S st=>h a w S (st.own_map B2)
end

theorem sE(h:xs.set i y=zs):zs.length=xs.length:=by rw [←h,Aa]
section
theorem pn(hl:m=n)(s:Nat)(hs:d9 G s=some (tV (ax l cap n)))(k:RG E ops Q rest O ((s,tV (ax l cap m))::G)):RG E ops Q rest O G:=by
 subst hl
 exact fun a w S st=>k a w S (st.cons (st.facts.at_ s _ hs))
end

theorem gD{s:Rp γ}{o1 o2:Nat}{g1:α→β}{g2:β→γ}(h1:lK r o1 q g1)(h2:lK q o2 s g2)(hb:Nat.ble (o2+s.sz) q.sz=true:=by rfl):lK r (o1+o2) s (fun x=>g2 (g1 x)):=fun S cs x h=>by
 have h3:=h2 S _ _ (h1 S cs x h)
 have hb' :=rm hb
 rwa [zE,z8,t6,xI (by omega)]at h3
def dK(P:Program)(f:FuncId)(ts:List Ty)(O1:List OE){ι:Type}(t:ι→Ty)(O2:ι→List OE):Prop:=
 ∀w S vs,lI w S→wH S ts vs→fR 0 tN w S O1→Calls P f vs.toArray w fun en w' => ∃i v S',en= .returned v∧(t i).p S' v∧kj (fun k=> ∃f∈O1,f.fp k) w S w' S' ∧lI w' S' ∧fR 0 tN w' S' (O2 i)∧ ∀k,(∃f∈O2 i,f.fp k)→(∃f∈O1,f.fp k)∨w.heap.size≤k
def Kq(E:En)(O1:List OE){ι:Type}(t:ι→Ty)(O2:ι→List OE):Ending→World→Prop:=fun en w' =>
 ∃i v S',en= .returned v∧(t i).p S' v∧kj E.B E.w0 E.S0 w' S' ∧lI w' S' ∧fR 0 tN w' S' (O2 i)∧ ∀k,(∃f∈O2 i,f.fp k)→(∃f∈O1,f.fp k)∨E.w0.heap.size≤k
def EY(O1:List OE):Nat→Prop:=fun k=> ∃f∈O1,f.fp k
theorem dK.of{t:ι→Ty}(hf:P.funcs[f]? =some fn)(hb:fn.body=some c)(hN:fn.ntmps=N)(hn:Nat.ble ts.length N=true)(h: ∀w0 S0,CG ⟨P,⟨N,[]⟩,EY O1,w0,S0,none⟩ (bodyPost P fn (Kq ⟨P,⟨N,[]⟩,EY O1,w0,S0,none⟩ O1 t O2)) c O1 (yq 0 ts)):dK P f ts O1 t O2:=by
 subst hN
 intro w S vs hs hv ho
 exact uF.1 (callsIn_of_wp (F:=fw none) (n:=0) hf hb trivial (h w S _ w S ⟨kU _ _ _,hs,wM ho fun f hf k hk=> .inr ⟨f,hf,hk⟩,xz hv _ (rm hn)⟩))
theorem AG{t:ι→Ty}{v:Value}(st:St E O G a w S)(hB:E.B=EY O1)(i:ι)(hO:O=O2 i)(hv:(t i).p S v):Kq E O1 t O2 (.returned v) w:=by
 subst hO
 refine⟨i,v,S,rfl,hv,st.ext,st.sat,st.own.weak,fun k ⟨f,hf,hk⟩=>?_⟩
 rcases(fR.mem st.own f hf).2 k hk with h|h
 ·exact .inr h
 ·rw [hB]at h;exact .inl h
section
variable{t:ι→Ty}
theorem ee{k:Nat}{u:Ty}(hr:fn.results= #[.tmp k])(i:ι)(hO:O=O2 i)(hk:d9 G k=some u)(hu: ∀S v,u.p S v→(t i).p S v):
  AT ⟨P,⟨N,[]⟩,EY O1,w0,S0,none⟩ (bodyPost P fn (Kq ⟨P,⟨N,[]⟩,EY O1,w0,S0,none⟩ O1 t O2)) .ret O G:=fun _ _ S st=>
 ⟨st.facts.defers,_,q8 P fn k hr _ _,AG st rfl i hO (hu S _ (st.facts.at_ k u hk))⟩
theorem GX(hr:fn.results= #[])(i:ι)(hO:O=O2 i)(ht:t i=tT []):
  AT ⟨P,⟨N,[]⟩,EY O1,w0,S0,none⟩ (bodyPost P fn (Kq ⟨P,⟨N,[]⟩,EY O1,w0,S0,none⟩ O1 t O2)) .ret O G:=fun _ _ S st=>
 ⟨st.facts.defers,_,tB P fn hr _ _,AG st rfl i hO (by rw [ht];exact⟨[],rfl,trivial⟩)⟩
theorem gU(hr:fn.results= #[])(i:ι)(hO:O=O2 i)(ht:t i=tT []):
  AT ⟨P,⟨N,[]⟩,EY O1,w0,S0,none⟩ (bodyPost P fn (Kq ⟨P,⟨N,[]⟩,EY O1,w0,S0,none⟩ O1 t O2)) .normal O G:=fun _ _ S st=>
 ⟨st.facts.defers,_,tB P fn hr _ _,AG st rfl i hO (by rw [ht];exact⟨[],rfl,trivial⟩)⟩
end
theorem B1: ∀{O1 O2:List OE},fR base B w S O1→fR base B w S O2→(∀e∈O1,∀f∈O2,e.apart f)→fR base B w S (O1++O2)
 |[],_,_,h,_=>h
 |e::O1,O2,⟨h1,h2,h3⟩,h,ha=>⟨h1,fun f hf=>(yS.1 hf).elim (h2 f) (ha e (nf ..) f),B1 h3 h fun g hg f hf=>ha g (oO _ hg) f hf⟩
variable{ats:Array TypeId}
section
variable{ty:TypeId}
theorem St.turn{Or O2:List OE}(st:St E (O1++Or) G a w S)(hx:kj (fun k=> ∃f∈O1,f.fp k) w S w' S')(hs:lI w' S')(ho:fR 0 tN w' S' O2)(hn: ∀k,(∃f∈O2,f.fp k)→(∃f∈O1,f.fp k)∨w.heap.size≤k):St E (O2++Or) G a w' S' :=by
 obtain⟨h1,h2,h3⟩:=qv st.own
 have hbl:=st.base_le
 refine⟨st.ext.step hx (fun b ⟨f,hf,hb⟩=>(fR.mem h1 f hf).2 b hb),hs,B1 (wM ho fun f hf k hk=>?_) (h2.ext hx fun f hf b hb ⟨g,hg,hgb⟩=>h3 g hg f hf b hgb hb) (fun e he f hf b heb hfb=>?_),st.facts.mono hx.keep⟩
 ·rcases hn k ⟨f,hf,hk⟩with⟨g,hg,hgk⟩|h
  ·exact(fR.mem h1 g hg).2 k hgk
  ·exact .inl (vf hbl h)
 ·rcases hn b ⟨e,he,heb⟩with⟨g,hg,hgb⟩|h
  ·exact h3 g hg f hf b hgb hfb
  ·have:=f.here (fR.mem h2 f hf).1 b hfb
   omega
theorem BZ{xs:List Operand}(O1 Or:List OE){t:ι→Ty}(hO:O=O1++Or)(hc:an E.P f=true)(hs:dK E.P f ts O1 t O2)(hx:mi E.N G xs ts)(hd:Nat.blt d E.N.n=true)(k: ∀i,RG E ops Q rest (O2 i++Or) ((d,t i)::G)):
  RG E ops Q (⟨some d,.call ⟨.value (.func f),xs.toArray,ats⟩,ty,pos,after,none⟩::rest) O G:= .of rfl fun a w S st=>by
 subst hO
 have hr:(execOp a.eval ⟨some d,.call ⟨.value (.func f),xs.toArray,ats⟩,ty,pos,after,none⟩).run E.P w= .ok (.enter f (xs.map a.eval).toArray) w:=by
  simp [execOp,resolve,Act.eval,Deferred.ofValue,invoke,iP hc]
 refine⟨fun c h=>(by cases h),?_⟩
 rw [hr]
 refine(hs w S _ st.sat (hx.tys st.facts) (qv st.own).1.weak).mono fun en w' ⟨i,v,S',he,hv,h1,h2,h3,h4⟩=>⟨_,he,?_⟩;exact k i _ _ S' ((st.turn h1 h2 h3 h4).put hd hv)
end

structure OI where
 h:Nat→Option Nat×Nat:=fun _=>(none,0)
 os:List (Option Nat×Nat):=[]
 fp:Nat→Prop:=tN
 v:Value:=undef
 ng:Nat→(Option Nat×Nat)×(Nat→Option Nat×Nat):=fun _=>((none,0),fun _=>(none,0))
def u7:OI:={}
def oi(l:Option Nat)(c:Nat):OI:={h:=fun _=>(l,c)}
def EffOK(E:En)(O:List OE)(need:mX)(o:Oper)(post:OI→List OE)(t:OI→Ty):Prop:=
 ∀a w S,lI w S→fR E.base E.B w S O→cT E.N S a need→E.base≤w.heap.size→
  FV E.P o a w (fun a' w' => ∃v S' x,a' =a.put o.dst v∧kj (EY O) w S w' S' ∧lI w' S' ∧fR E.base E.B w' S' (post x)∧(t x).p S' v)
variable{post:OI→List OE}{t' :TypeId}
section
variable{ty:TypeId}
theorem BO{y:Operand}{u:OI→Ty}(ti:TI E.P T sz bytes agg z)(hsz:r.sz=sz)(hz:Nat.beq z.length sz=true)(h0:Nat.blt 0 sz=true)(h128:Nat.ble bytes 2048=true)(ht:E.P.underlying t=some (.slice T))(hx:aK E.N G x (tV (ax l cap n)))(hy: ∀a w S,lI w S→cT E.N S a G→ ∃news,Src E.P r.sz t' (a.eval y) ys.length news w∧qT r S news ys)(happ:gn xs ys=some zs)(hu: ∀l' cap' w0 S,(lP mm r T l' cap' zs).p w0 S→(u (oi l' cap')).p S (ax l' cap' zs.length))(hn:n=xs.length):
  EffOK E (lP mm r T l cap xs::O) G ⟨some d,.call ⟨.builtin .append,#[x,y],#[t,t']⟩,ty,pos,after,g⟩ (fun i=>lP mm r T (i.h 0).1 (i.h 0).2 zs::O) u:=fun a w S hs ho hf hb=>by
 subst hn
 have h1:a.eval x=ax l cap xs.length:=hx S a hf
 obtain⟨news,h2,h3⟩:=hy a w S hs hf
 obtain⟨l',cap',w',S',hr,hext,hsat,hh,hnew⟩:=vx (ty:=ty) ti hsz hz h0 h128 ht hs ho.1 hb h2 h3 happ
 have hrun:(execOp a.eval ⟨some d,.call ⟨.builtin .append,#[x,y],#[t,t']⟩,ty,pos,after,g⟩).run E.P w= .ok (.value (ax l' cap' zs.length)) w' :=by
  simp [execOp,resolve,invoke,builtin,h1,hr]
 refine⟨fun c h=>(by cases h),?_⟩
 rw [hrun]
 refine⟨_,S',oi l' cap',rfl,hext.more fun b hb=>⟨_,nf ..,hb⟩,hsat,⟨hh,fun f hf b hb hfb=>?_,ho.2.2.ext hext fun f hf b hb hbl=>ho.2.1 f hf b hbl hb⟩,hu l' cap' w' S' hh.1⟩
 rcases hnew b hb with h|h
 ·exact ho.2.1 f hf b h hfb
 ·have:=f.here (fR.mem ho.2.2 f hf).1 b hfb
  omega
theorem pl{y:Operand}(ti:TI E.P T sz bytes agg z)(hsz:r.sz=sz)(hz:Nat.beq z.length sz=true)(h0:Nat.blt 0 sz=true)(h128:Nat.ble bytes 2048=true)(ht:E.P.underlying t=some (.slice T))(ht' :t' =t)(hx:aK E.N G x (tV (ax l cap n)))(hy:aK E.N G y (tD (gB r) ys))(happ:gn xs ys=some zs)(hn:n=xs.length:=by rfl):
  EffOK E (df r T l cap xs::O) G ⟨some d,.call ⟨.builtin .append,#[x,y],#[t,t']⟩,ty,pos,after,g⟩ (fun i=>df r T (i.h 0).1 (i.h 0).2 zs::O) (fun i=>tV (ax (i.h 0).1 (i.h 0).2 zs.length)):=by
 subst ht'
 exact BO ti hsz hz h0 h128 ht hx (fun a w S hs hf=>sD ht hs (hy S a hf)) happ (fun _ _ _ _ _=>rfl) hn
theorem GC{y:Operand}(ti:TI E.P T sz bytes agg z)(hsz:r.sz=sz)(hz:Nat.beq z.length sz=true)(h0:Nat.blt 0 sz=true)(h128:Nat.ble bytes 2048=true)(ht:E.P.underlying t=some (.slice T))(ht' :t' =t)(hx:aK E.N G x (tO r l cap xs))(hy:aK E.N G y (tD (gB r) ys))(happ:gn xs ys=some zs):
  EffOK E (tip r T l cap xs::O) G ⟨some d,.call ⟨.builtin .append,#[x,y],#[t,t']⟩,ty,pos,after,g⟩ (fun i=>tip r T (i.h 0).1 (i.h 0).2 zs::O) (fun i=>tO r (i.h 0).1 (i.h 0).2 zs):=by
 subst ht'
 exact BO ti hsz hz h0 h128 ht (vr hx) (fun a w S hs hf=>sD ht hs (hy S a hf)) happ (fun _ _ _ _ h=>⟨rfl,mj h⟩) rfl
theorem Kt{xs:List Operand}{u:OI→Ty}(hc:an E.P f=true)(hs:eN E.P f ts mm r T ys)(hx:mi E.N G xs ts)(hu: ∀l cap w0 S,(lP mm r T l cap ys).p w0 S→(u (oi l cap)).p S (ax l cap ys.length)):
  EffOK E O G ⟨some d,.call ⟨.value (.func f),xs.toArray,ats⟩,ty,pos,after,g⟩ (fun i=>lP mm r T (i.h 0).1 (i.h 0).2 ys::O) u:=fun a w S hsat ho hf hb=>by
 have hr:(execOp a.eval ⟨some d,.call ⟨.value (.func f),xs.toArray,ats⟩,ty,pos,after,g⟩).run E.P w= .ok (.enter f (xs.map a.eval).toArray) w:=by
  simp [execOp,resolve,Act.eval,Deferred.ofValue,invoke,iP hc]
 refine⟨fun c h=>(by cases h),?_⟩
 rw [hr]
 exact(hs w S _ hsat (hx.tys hf)).mono fun e w' ⟨l,cap,S',he,h1,h2,h3⟩=>⟨_,he,_,S',oi l cap,rfl,h1.more fun _ hb=>hb.elim,h2,sP ho h1 h3.1 (fun b hb=>(h3.2 b hb).resolve_right id) hb,hu l cap w' S' h3.1⟩
theorem eN.tip(h:eN P f ts mm r T ys):eN P f ts true r T ys:=by
 cases mm with
 |true=>exact h
 |false=>
  intro w S vs hs hv
  refine(h w S vs hs hv).mono fun e w' ⟨l,cap,S',he,h1,h2,h3⟩=>?_
  have st:St ⟨default,⟨0,[]⟩,tN,w,S,none⟩ [df r T l cap ys] [] ⟨#[],[]⟩ w' S' :=⟨h1,h2,⟨h3,fun _ hf=>(by cases hf),trivial⟩,⟨rfl,rfl,fun _ _ h=>(by simp [d9]at h)⟩⟩
  obtain⟨S'',h4⟩:=st.freeze
  exact⟨l,cap,S'',he,h4.ext,h4.sat,h4.own.1⟩
theorem tS{xs:List Operand}(hc:an E.P f=true)(hs:eN E.P f ts mm r T ys)(hx:mi E.N G xs ts):
  EffOK E O G ⟨some d,.call ⟨.value (.func f),xs.toArray,ats⟩,ty,pos,after,g⟩ (fun i=>Go.Proofs.YtdohlidddcgfjaaGreat.tip r T (i.h 0).1 (i.h 0).2 ys::O) (fun i=>tO r (i.h 0).1 (i.h 0).2 ys):=Kt hc hs.tip hx (fun _ _ _ _ h=>⟨rfl,mj h⟩)
theorem fR.turn{Or O2:List OE}(h:fR base B w S (O1++Or))(hbl:base≤w.heap.size)(hx:kj (EY O1) w S w' S')(ho:fR 0 tN w' S' O2)(hn: ∀k,(∃f∈O2,f.fp k)→(∃f∈O1,f.fp k)∨w.heap.size≤k):fR base B w' S' (O2++Or):=by
 obtain⟨h1,h2,h3⟩:=qv h
 refine B1 (wM ho fun f hf k hk=>?_) (h2.ext hx fun f hf b hb ⟨g,hg,hgb⟩=>h3 g hg f hf b hgb hb) (fun e he f hf b heb hfb=>?_)
 ·rcases hn k ⟨f,hf,hk⟩with⟨g,hg,hgk⟩|h
  ·exact(fR.mem h1 g hg).2 k hgk
  ·exact .inl (vf hbl h)
 ·rcases hn b ⟨e,he,heb⟩with⟨g,hg,hgb⟩|h
  ·exact h3 g hg f hf b hgb hfb
  ·have:=f.here (fR.mem h2 f hf).1 b hfb
   omega
theorem da{xs:List Operand}(O1 Or:List OE){t:OI→Ty}{O2:OI→List OE}(hO:O=O1++Or)(hc:an E.P f=true)(hs:dK E.P f ts O1 t O2)(hx:mi E.N G xs ts)(hpost: ∀i,O2 i++Or=post i):
  EffOK E O G ⟨some d,.call ⟨.value (.func f),xs.toArray,ats⟩,ty,pos,after,g⟩ post t:=fun a w S hsat ho hf hb=>by
 subst hO
 obtain rfl:(fun i=>O2 i++Or)=post:=funext hpost
 have hr:(execOp a.eval ⟨some d,.call ⟨.value (.func f),xs.toArray,ats⟩,ty,pos,after,g⟩).run E.P w= .ok (.enter f (xs.map a.eval).toArray) w:=by
  simp [execOp,resolve,Act.eval,Deferred.ofValue,invoke,iP hc]
 refine⟨fun c h=>(by cases h),?_⟩
 rw [hr]
 exact(hs w S _ hsat (hx.tys hf) (qv ho).1.weak).mono fun en w' ⟨i,v,S',he,hv,h1,h2,h3,h4⟩=>⟨_,he,v,S',i,rfl,h1.more fun b ⟨f,hf,hb⟩=>⟨f,CS _ hf,hb⟩,h2,fR.turn ho hb h1 h3 h4,hv⟩
theorem eS{op:Op}{t:OI→Ty}(h:EffOK E O G ⟨some d,op,ty,pos,after,none⟩ post t)(hd:Nat.blt d E.N.n=true)(k: ∀x:OI,RG E ops Q rest (post x) ((d,t x)::G)):RG E ops Q (⟨some d,op,ty,pos,after,none⟩::rest) O G:= .of rfl fun a w S st=>
 oh (fun a' w' ⟨v,S',x,ha,hx,hs,ho,hv⟩=>by
  subst ha
  exact k x _ _ S' ⟨st.ext.step hx fun b ⟨f,hf,hb⟩=>(fR.mem st.own f hf).2 b hb,hs,ho,(st.facts.mono hx.keep).put hd hv⟩) (h a w S st.sat st.own st.facts st.base_le)
end

def RY(σ:Nat→OI)(k:Nat)(x:OI):Nat→OI:=fun j=>bif Nat.beq j k then x else σ j
theorem Lf(σ:Nat→OI){k j:Nat}(x:OI)(h:j≠k):RY σ k x j=σ j:=by
 have:Nat.beq j k=false:=by
  cases hb:Nat.beq j k with
  |false=>rfl
  |true=>exact absurd (q7 hb) h
 simp [RY,this]
structure NE where
 slot:Nat
 ty:(Nat→OI)→Ty
 src:Option Nat
def UD(G:mX)(ts:List (OI→Ty))(n:NE):Prop:=
 match n.src with
 |some j=> ∀σ,(ts[j]?).map (fun f=>f (σ j))=some (n.ty σ)
 |none=> ∀σ,d9 G n.slot=some (n.ty σ)
def Jq(G:mX)(ts:List (OI→Ty)):List NE→Prop
 |[]=>True
 |n::l=>UD G ts n∧Jq G ts l
theorem Jq.mem{ts:List (OI→Ty)}: ∀{l:List NE},Jq G ts l→ ∀n∈l,UD G ts n
 |_::_,⟨h,_⟩,_,.head _=>h
 |_::_,⟨_,h⟩,_,.tail _ hm=>Jq.mem h _ hm
def uK(E:En)(ops:Array Oper)(O:List OE)(need:mX)(o:Oper)(post:OI→List OE)(t:OI→Ty):Prop:=
 ∀a w S,lI w S→fR E.base E.B w S O→cT E.N S a need→E.base≤w.heap.size→
  if Region.wanted o (yielded ops a.tmps)then FV E.P o a w (fun a' w' => ∃v S' x,a' =a.put o.dst v∧kj (EY O) w S w' S' ∧lI w' S' ∧fR E.base E.B w' S' (post x)∧(t x).p S' v)
  else∃x,fR E.base E.B w S (post x)∧(t x).p S undef
theorem gP{need:mX}{t:OI→Ty}(hg:o.guard=none)(h:EffOK E O need o post t):uK E ops O need o post t:=fun a w S hs ho hf hb=>by
 have:Region.wanted o (yielded ops a.tmps)=true:=by unfold Region.wanted;rw [hg]
 rw [this,bq rfl]
 exact h a w S hs ho hf hb
def gE(es:List Bool)(i:Nat):Nat:=(es.take i).countP (· ==true)
def H6(L:List Oper)(es:List Bool):Bool:=(List.range es.length).all fun i=>(List.range i).all fun j=> !((es[i]?).getD false&&(es[j]?).getD false)||pE L L.length i j
structure DJE(E:En)(G:mX)(l:List Oper)(ts:List (OI→Ty))(Om:Nat→(Nat→OI)→List OE)(es:List Bool)(done:Array Bool)(a:Act)(w:World)(S:SH)(σ:Nat→OI)(c:Nat):Prop where
 ext:kj E.B E.w0 E.S0 w S
 sat:lI w S
 own:fR E.base E.B w S (Om c σ)
 size:a.tmps.size=E.N.n
 defers:a.defers=E.N.ds
 dsz:done.size=l.length
 down: ∀j o,l[j]? =some o→done.getD j false=true→ ∀e∈o.after,Region.binds .any e=true→done.getD e.on false=true
 old: ∀k t,d9 G k=some t→(∀j o,l[j]? =some o→done.getD j false=true→o.dst≠some k)→t.p S (a.tmps.getD k undef)
 new: ∀j o d f,l[j]? =some o→done.getD j false=true→o.dst=some d→ts[j]? =some f→(f (σ j)).p S (a.tmps.getD d undef)
 chain: ∀k,es[k]? =some true→(done.getD k false=true↔gE es k<c)
variable{es:List Bool}
theorem BW: ∀{i j:Nat},i<j→es[i]? =some true→gE es i<gE es j:=by
 induction es with
 |nil=>intro i j _ h;simp at h
 |cons e es ih=>
  intro i j hij h
  cases j with
  |zero=>omega
  |succ j=>
   cases i with
   |zero=>simp at h;subst h;simp [gE]
   |succ i=>
    have:=ih (i:=i) (j:=j) (by omega) (by simpa using h)
    cases e<;>simp [gE]at this ⊢ <;>omega
theorem uH: ∀{c k:Nat},c<gE es k→ ∃i,i<k∧es[i]? =some true∧gE es i=c:=by
 induction es with
 |nil=>intro c k h;simp [gE]at h
 |cons e es ih=>
  intro c k h
  cases k with
  |zero=>simp [gE]at h
  |succ k=>
   cases e with
   |false=>
    obtain⟨i,h1,h2,h3⟩:=ih (c:=c) (k:=k) (by simpa [gE] using h)
    exact⟨i+1,by omega,by simpa using h2,by simpa [gE] using h3⟩
   |true=>
    cases c with
    |zero=>exact⟨0,by omega,rfl,by simp [gE]⟩
    |succ c=>
     obtain⟨i,h1,h2,h3⟩:=ih (c:=c) (k:=k) (by simp [gE]at h ⊢;omega)
     exact⟨i+1,by omega,by simpa using h2,by simp [gE]at h3 ⊢;omega⟩
section
variable{ts:List (OI→Ty)}{Om:Nat→(Nat→OI)→List OE}
end

def Pz(n:Int):Option Unit:=if 0≤n then some ()else none
theorem yw{n:Int}{u:Unit}(h:Pz n=some u):0≤n:=by
 unfold Pz at h
 split at h
 ·assumption
 ·cases h
section
variable{ty:TypeId}
theorem Dd(ht:E.P.underlying t=some (.slice e))(hx:aK E.N G x (tV (.slice none 0 0))):cE E O G ⟨dst,.call ⟨.builtin .len,#[x],#[t]⟩,ty,pos,after,g⟩ (tD (rI .i64) (0:Int)):=
 .of_pure fun a w S _ _ hf=>by
  have h1:a.eval x= .slice none 0 0:=hx S a hf
  refine⟨.int .i64 0,?_,eO.2 rfl⟩
  simp [execOp,resolve,invoke,builtin,Builtin.len_,jQ ht,h1,goInt]
theorem Df(ht:E.P.underlying t=some (.slice e))(hx:aK E.N G x (tV (.slice none 0 0))):cE E O G ⟨dst,.call ⟨.builtin .cap,#[x],#[t]⟩,ty,pos,after,g⟩ (tD (rI .i64) (0:Int)):=
 .of_pure fun a w S _ _ hf=>by
  have h1:a.eval x= .slice none 0 0:=hx S a hf
  refine⟨.int .i64 0,?_,eO.2 rfl⟩
  simp [execOp,resolve,invoke,builtin,Builtin.cap_,jQ ht,h1,goInt]
theorem FW{hi:Operand}(ht:E.P.underlying t=some (.slice T))(ti:TI E.P T sz bytes agg z)(hx:aK E.N G x (tV (.slice none 0 0)))(hhi:aK E.N G hi (tD (rI k) (0:Int))):
  cE E O G ⟨dst,.slice t x none (some hi) none,ty,pos,after,g⟩ (tV (.slice none 0 0)):=
 .of_pure fun a w S _ _ hf=>by
  have h1:a.eval x= .slice none 0 0:=hx S a hf
  have h6:=eO.1 (hhi S a hf)
  refine⟨.slice none 0 0,?_,rfl⟩
  have hb:=no (P:=E.P) (w:=w) (k:=k) (n:=(0:Int)) (y:=0) (code:= .sliceAcap) (by omega) (by omega)
  simp [execOp,Instr.sliceAt,h1,h6,Instr.slice,jQ ht,Instr.sliceBounds,hb,no (k:=k) (n:=(0:Int)) (y:=0) (by omega) (by omega),ti.sizeOf]
end

def AR{α:Type}(n:Int)(z:α):Option (List α):=if 0≤n∧n≤68719476736 then some (List.replicate n.toNat z)else none
theorem E8{n:Int}{z:α}(h:AR n z=some zs): ∃m:Nat,n=m∧m≤68719476736∧zs=List.replicate m z:=by
 unfold AR at h
 split at h
 ·rename_i hc;exact⟨n.toNat,by omega,by omega,by simpa using h.symm⟩
 ·cases h
theorem wo{α:Type}{r:Rp α}{x:α}{z:List Value}(hx: ∀S,r.rc S z x)(S:SH): ∀n:Nat,qT r S (List.replicate n z).flatten (List.replicate n x)
 |0=>rfl
 |n+1=>⟨z,_,by rw [List.replicate_succ,List.flatten_cons],hx S,wo hx S n⟩
theorem Bm(z:List Value):(List.range z.length).map (fun i=>z[i%z.length]?.getD default)=z:=by
 apply List.ext_getElem?
 intro k
 rcases oZ k z.length with h|h
 ·rw [List.getElem?_map,List.getElem?_range h]
  simp [Nat.mod_eq_of_lt h,h]
 ·rw [G7 (by simpa using h),G7 h]
theorem nW(z:List Value)(n:Nat):(Builtin.zeroCells z.toArray n).toList=(List.replicate n z).flatten:=by
 unfold Builtin.zeroCells
 simp
 induction n with
 |zero=>simp
 |succ n ih=>
  rw [List.replicate_succ,List.flatten_cons,←ih,Nat.succ_mul,Nat.add_comm,List.range_add,List.map_append,Bm,List.map_map]
  congr 1
  apply List.map_congr_left
  intro i _
  simp
theorem ze(z:List Value)(n sz:Nat)(h:z.length=sz):(madeCells z.toArray (n*sz)).toList=(List.replicate n z).flatten:=by
 subst h
 have:=nW z n
 unfold Builtin.zeroCells at this
 unfold madeCells
 simpa using this
section
variable{ty:TypeId}
theorem flat_len(h:z.length=sz)(n:Nat):(List.replicate n z).flatten.length=n*sz:=by
 simp [h]
theorem GB{x:α}{n:Int}{s y:Operand}{kn:IntKind}(ti:TI E.P T sz bytes agg z)(hsz:r.sz=sz)(hz:Nat.beq z.length sz=true)(h0:Nat.blt 0 sz=true)(h128:Nat.ble bytes 2048=true)(ht:E.P.underlying t=some (.slice T))(ht' :E.P.underlying t' =some (.int kn))(hx: ∀S,r.rc S z x)(hs' :aK E.N G s (tV (.slice none 0 0)))(hy:aK E.N G y (tD (rI k) n))(hn:0<n)(h:AR n x=some zs):
  EffOK E O G ⟨some d,.call ⟨.builtin .append,#[s,y],#[t,t']⟩,ty,pos,after,g⟩ (fun i=>df r T (i.h 0).1 (i.h 0).2 zs::O) (fun i=>tV (ax (i.h 0).1 (i.h 0).2 zs.length)):=fun a w S hs ho hf hb=>by
 subst hsz
 obtain⟨i,zv,hi,h1,h2,h3,h4⟩:=ti.get
 obtain⟨m,rfl,hm,rfl⟩:=E8 h
 have hsv:a.eval s= .slice none 0 0:=hs' S a hf
 have hyv:=eO.1 (hy S a hf)
 have hz2:z.length=r.sz:=q7 hz
 have h128' :=rm h128
 have h0' :0<r.sz:=by simpa [tZ] using h0
 have hbytes:m*i.bytes≤281474976710656:=by
  have:m*i.bytes≤68719476736*2048:=Nat.mul_le_mul hm (by omega)
  omega
 have hr:=Lib.run_append_nil_zeros (P:=E.P) w t t' ty T i zv k kn ht ht' hi h3 m (by omega) (by omega) (by omega) hbytes
 have hge:=grownCap_ge w m 0 T
 have hle:=grownCap_le_maxLen w m 0 T (by simp only [maxLen];omega)
 generalize grownCap w m 0 T=cp at hr hge hle
 obtain⟨C,hC⟩: ∃C,Builtin.zeroCells zv.cells m++Builtin.zeroCells zv.cells (cp-m)=C:=⟨_,rfl⟩
 rw [hC]at hr
 obtain⟨he0,hs0⟩:=yQ (w:=w) hs
 obtain⟨he,hs2,hno⟩:=lj (w:=w.drew) (.cells C T (0,0)) hs0
 have hx2:kj tN w S (w.drew.alloc (.cells C T (0,0))) S:=he0.trans he
 have hrun:(execOp a.eval ⟨some d,.call ⟨.builtin .append,#[s,y],#[t,t']⟩,ty,pos,after,g⟩).run E.P w= .ok (.value (.slice (some ⟨w.heap.size,0,none⟩) m cp)) (w.drew.alloc (.cells C T (0,0))):=by
  simp [execOp,resolve,invoke,builtin,hsv,hyv,hr]
 refine⟨fun c h=>(by cases h),?_⟩
 rw [hrun]
 have hfl:=flat_len hz2 m
 have hC1:C.toList=(List.replicate m z).flatten++(List.replicate (cp-m) z).flatten:=by
  rw [←hC,Array.toList_append,h4,nW,nW]
 refine⟨_,S,oi (some w.heap.size) cp,rfl,hx2.more fun _ hb=>hb.elim,hs2,sP ho hx2 (e:=df r T (some w.heap.size) cp (List.replicate m x)) ⟨(List.replicate m z).flatten,⟨C,xM w.drew _,by simpa using hge,hle,?_,?_⟩,wo hx S m,fun b hb=>by rw [←qL hb];exact hno⟩ (fun b hb=>AK (qL hb)) hb,?_⟩
 ·have:C.toList.length=cp*r.sz:=by
   rw [hC1,lM,hfl,flat_len hz2,←u9];congr 1;omega
  simpa using this
 ·rw [hC1,E3,←hfl,List.take_left]
 ·show _=ax _ _ _
  rw [E3];rfl

theorem KE{x:α}{y:Operand}(ti:TI E.P T sz bytes agg z)(hsz:r.sz=sz)(hz:Nat.beq z.length sz=true)(ht:E.P.underlying t=some (.slice T))(hx: ∀S,r.rc S z x)(hone:z.all (·.oneCell')=true)(hs:eP xs lo (xs.length:Int)=some ys)(hy:aK E.N G y (tV (m0 sz l cap lo.toNat ys.length)))(hzs:xs.take lo.toNat++List.replicate ys.length x=zs)(k:RG E ops Q rest (df r T l cap zs::O) G):
  RG E ops Q (⟨none,.call ⟨.builtin .clear,#[y],#[t]⟩,ty,pos,after,none⟩::rest) (df r T l cap xs::O) G:= .of rfl fun a w S st=>by
 subst hsz
 subst hzs
 obtain⟨i,zv,hi,h1,h2,h3,h4⟩:=ti.get
 have hyv:a.eval y=m0 r.sz l cap lo.toNat ys.length:=hy S a st.facts
 have hz2:z.length=r.sz:=q7 hz
 obtain⟨lo',m,rfl,hm,h5,h6,rfl⟩:=gu hs
 have hm' :m=xs.length:=by omega
 subst hm'
 rw [xN]at hyv k
 rw [AJ]at hyv k
 by_cases hnil:xs.drop lo' =[]
 ·have hlo:xs.length≤lo' :=ub.1 hnil
  rw [hnil]at hyv k
  have e1:xs.take lo' ++List.replicate ([]:List α).length x=xs:=by simp [tu hlo]
  rw [e1]at k
  have hrun:(execOp a.eval ⟨none,.call ⟨.builtin .clear,#[y],#[t]⟩,ty,pos,after,none⟩).run E.P w= .ok (.value (.tuple #[])) w:=by
   cases l<;>simp [execOp,resolve,invoke,builtin,Builtin.clear_,jQ ht,hyv,m0]
  refine⟨fun c h=>(by cases h),?_⟩
  rw [hrun]
  exact k _ _ S st
 ·obtain⟨⟨cells,hraw,hrc,hno⟩,hbase⟩:=st.own.1
  have hlt:lo' <xs.length:=by
   rcases oZ lo' xs.length with h|h
   ·exact h
   ·exact absurd (yU h) hnil
  cases l with
  |none=>have:=hraw.1;omega
  |some b=>
   obtain⟨cur,g1,g2,g3,g4,g5⟩:=hraw
   have hno' :S b=none:=hno b rfl
   have hne: ¬(cap=lo'):=by omega
   have hld:(xs.drop lo').length=xs.length-lo' :=by simp
   have hfl:=flat_len hz2 (xs.length-lo')
   have hones: ∀u∈(List.replicate (xs.length-lo') z).flatten,u.oneCell' =true:=by
    intro u hu
    obtain⟨q,hq,hu⟩:=List.mem_flatten.1 hu
    rw [(List.mem_replicate.1 hq).2]at hu
    exact pq.1 hone u hu
   have hmul:xs.length*r.sz≤cur.size:=by rw [g4];exact xK _ g2
   have hfit:lo' *r.sz+(xs.length-lo')*r.sz=xs.length*r.sz:=by rw [←u9];congr 1;omega
   have hst:=run_storeCells_at E.P b (lo' *r.sz) T (List.replicate (xs.length-lo') z).flatten 0 cur w g1 (by omega) hones
   simp only [zD]at hst
   have hrun:(execOp a.eval ⟨none,.call ⟨.builtin .clear,#[y],#[t]⟩,ty,pos,after,none⟩).run E.P w= .ok (.value (.tuple #[])) (w.setRow b (cur.toList.take (lo' *r.sz)++(List.replicate (xs.length-lo') z).flatten++cur.toList.drop (lo' *r.sz+(List.replicate (xs.length-lo') z).flatten.length)).toArray):=by
    have e1: ∃q,xs.length-lo' =q+1:=⟨xs.length-lo' -1,by omega⟩
    obtain⟨q,hq⟩:=e1
    have e2:a.eval y= .slice (some ⟨b,lo' *r.sz,none⟩) (q+1) (cap-lo'):=by rw [hyv,hld,hq];simp [m0,hne]
    rw [hq]at hst ⊢
    simp [execOp,resolve,invoke,builtin,Builtin.clear_,jQ ht,e2,zeroValue,typeInfo,hi,h3,h4,nW,hst]
   refine⟨fun c h=>(by cases h),?_⟩
   rw [hrun]
   have hset:=setRow_heap w b cur (cur.toList.take (lo' *r.sz)++(List.replicate (xs.length-lo') z).flatten++cur.toList.drop (lo' *r.sz+(List.replicate (xs.length-lo') z).flatten.length)).toArray T _ g1
   have hl2:(xs.take lo' ++List.replicate (xs.drop lo').length x).length=xs.length:=by simp;omega
   have hsp:qT r S (cells.take (lo' *r.sz)) (xs.take lo'):=by
    have e:xs=xs.take lo' ++xs.drop lo' :=(tt _ _).symm
    rw [e]at hrc
    have:=(pe hrc).1
    rwa [show(xs.take lo').length=lo' from by simp;omega]at this
   have hcl:((cur.toList.take (lo' *r.sz)++(List.replicate (xs.length-lo') z).flatten++cur.toList.drop (lo' *r.sz+(List.replicate (xs.length-lo') z).flatten.length)).toArray).toList.take ((xs.take lo' ++List.replicate (xs.drop lo').length x).length*r.sz)=cells.take (lo' *r.sz)++(List.replicate (xs.length-lo') z).flatten:=by
    rw [hl2,←g5,z8,xI (xK _ (by omega))]
    have hlen1:(cur.toList.take (lo' *r.sz)++(List.replicate (xs.length-lo') z).flatten).length=xs.length*r.sz:=by
     rw [lM,hfl,Cg,EZ,xI (by omega)];exact hfit
    rw [←hlen1,List.take_left]
   obtain⟨q1,q2,q3⟩:=oe (O:=O) st.sat (df r T (some b) cap xs) (df r T (some b) cap (xs.take lo' ++List.replicate (xs.drop lo').length x)) st.own (fun k=>⟨fun h=>(qL h).symm,fun h=>by rw [h];rfl⟩) (fun k=>⟨fun h=>(qL h).symm,fun h=>by rw [h];rfl⟩)
    (w' :=w.setRow b (cur.toList.take (lo' *r.sz)++(List.replicate (xs.length-lo') z).flatten++cur.toList.drop (lo' *r.sz+(List.replicate (xs.length-lo') z).flatten.length)).toArray) ⟨rfl,rfl,rfl,by simp [World.setRow],eE _⟩ (fun k hk=>setRow_other w b k _ hk)
    ⟨cells.take (lo' *r.sz)++(List.replicate (xs.length-lo') z).flatten,⟨_,hset,by rw [hl2];exact g2,g3,by simp only [CR,lM,Cg,AM,EZ];omega,hcl⟩,by rw [hld];exact sa hsp (wo hx S _),fun k hk=>by rw [←qL hk];exact hno'⟩ hno'
   ·exact k _ _ S ⟨st.ext.step q1 (fun c hc=>hbase c (by rw [hc];rfl)),q2,q3,st.facts⟩
end

def oz{α:Type}(r:Rp α)(n:Nat):Rp (List α) where
 sz:=n*r.sz
 agg:=true
 rc:=fun S cs xs=>xs.length=n∧qT r S cs xs
 mono:=fun h ⟨h1,h2⟩=>⟨h1,qS h h2⟩
 len:=fun⟨h1,h2⟩=>by rw [kL h2,h1]
 one:=fun⟨_,h2⟩=>yi h2
 sc:=fun h=>by cases h
section
section
variable{ty:TypeId}
theorem Cz{i:Int}(ht:E.P.underlying t=some (.array n e))(ti:TI E.P e sz bytes agg z)(hsz:r.sz=sz)(hx:aK E.N G x (ce (oz r n) xs))(hi:aK E.N G ix (tD (rI k) i))(hy:gj xs i=some y):
  cE E O G ⟨dst,.indexAddr t x ix,ty,pos,after,g⟩ (ce r y):=
 .of_pure fun a w S _ _ hf=>by
  subst hsz
  obtain⟨b,off,c,T,fr,h1,h2,h3,h4⟩:=hx S a hf
  have h5:a.eval ix= .int k i:=eO.1 (hi S a hf)
  obtain⟨h0,hy'⟩:=mp hy
  have hlt:i.toNat<xs.length:=(kF.1 hy').1
  have hc:0≤i∧i<(n:Int):=⟨h0,by omega⟩
  refine⟨.pointer (some ⟨b,off+i.toNat*r.sz,none⟩),?_,b,_,c,T,fr,rfl,h2,?_⟩
  ·simp [execOp,h1,h5,Instr.indexAt,asIntOf,jQ ht,Instr.sureAddr,hc,ti.sizeOf,jf]
  ·have h6:=yk h4 hy'
   rw [zE,z8,t6]at h6
   have hmul:i.toNat*r.sz+r.sz≤n*r.sz:=by rw [←Nat.succ_mul];exact xK _ (by omega)
   have hmin:min r.sz ((oz r n).sz-i.toNat*r.sz)=r.sz:=by
    show min r.sz (n*r.sz-i.toNat*r.sz)=r.sz
    omega
   rwa [hmin]at h6
theorem iS{i:Int}(ht:E.P.underlying t=some (.array n e))(ti:TI E.P e sz bytes agg z)(hm:bx (oz r n) T b xs∈O)(hx:aK E.N G x (tV (aL b 0)))(hi:aK E.N G ix (tD (rI k) i))(hy:gj xs i=some y):
  cE E O G ⟨dst,.indexAddr t x ix,ty,pos,after,g⟩ (tV (aL b (i.toNat*sz))):=
 .of_pure fun a w S _ ho hf=>by
  have h1:a.eval x=aL b 0:=hx S a hf
  have h5:a.eval ix= .int k i:=eO.1 (hi S a hf)
  obtain⟨⟨_,c,_,h4,_⟩,_⟩:=ho.mem _ hm
  obtain⟨h0,hy'⟩:=mp hy
  have hlt:i.toNat<xs.length:=(kF.1 hy').1
  have hc:0≤i∧i<(n:Int):=⟨h0,by omega⟩
  refine⟨_,?_,rfl⟩
  simp [execOp,h1,h5,aL,Instr.indexAt,asIntOf,jQ ht,Instr.sureAddr,hc,ti.sizeOf,jf]
end
theorem NI{i:Int}(hy:gj xs i=some y){cs:List Value}(h:(oz r n).rc S cs xs):r.rc S ((cs.drop (i.toNat*r.sz)).take r.sz) y:=yk h.2 (mp hy).2
theorem yn{i:Int}{p:Operand}{ty:TypeId}(ti:TI E.P U sz bytes agg z)(hsz:r.sz=sz)(hag:r.agg=agg)(hm:bx (oz r n) T b xs∈O)(hy:gj xs i=some y)(hp:aK E.N G p (tV (aL b (i.toNat*r.sz)))):cE E O G ⟨dst,.load U p,ty,pos,after,g⟩ (tD r y):=
 .of_pure fun a w S _ ho hf=>by
  have h1:a.eval p=aL b (i.toNat*r.sz):=hp S a hf
  obtain⟨⟨_,cur,h5,h6⟩,_⟩:=ho.mem _ hm
  have h7:=NI hy h6
  refine⟨_,?_,_,rfl,h7⟩
  simp [execOp,h1,aL,Instr.loadAt,Instr.sureAddr,lu ti h5 hsz hag h7]
theorem wI{v:α}{i:Int}{p:Operand}{ty:TypeId}(ti:TI E.P U sz bytes agg z)(hsz:r.sz=sz)(hy:gj xs i=some y)(hz:xs.set i.toNat v=zs)(hp:aK E.N G p (tV (aL b (i.toNat*r.sz))))(hv:aK E.N G x (tD r v))(k:RG E ops Q rest (bx (oz r n) T b zs::O) G):RG E ops Q (⟨none,.store U p x,ty,pos,after,none⟩::rest) (bx (oz r n) T b xs::O) G:= .of rfl fun a w S st=>by
 subst hz
 have h1:a.eval p=aL b (i.toNat*r.sz):=hp S a st.facts
 obtain⟨ds,h2,h3⟩:=hv S a st.facts
 obtain⟨⟨hno,cur,h5,h6⟩,_⟩:=st.own.1
 obtain⟨h0,hy'⟩:=mp hy
 have hlt:i.toNat<xs.length:=(kF.1 hy').1
 have hl:=kL h6.2
 simp only [EZ]at hl
 have hmul:i.toNat*r.sz+r.sz≤xs.length*r.sz:=by rw [←Nat.succ_mul];exact xK _ hlt
 obtain⟨w',hr,e1,e2,e3,e4,e5,e6⟩:=jw ti hsz h3 h5 (off:=i.toNat*r.sz) (by omega)
 have hrun:(execOp a.eval ⟨none,.store U p x,ty,pos,after,none⟩).run E.P w= .ok .skip w' :=by
  simp [execOp,h1,h2,Instr.storeAt,aL,Instr.sureAddr,hr]
 refine⟨fun c h=>(by cases h),?_⟩
 rw [hrun]
 obtain⟨g1,g2,g3⟩:=oe (O:=O) st.sat (bx (oz r n) T b xs) (bx (oz r n) T b (xs.set i.toNat v)) st.own (fun _=>rO) (fun _=>rO) ⟨e1,e2,e3,e4.1,e4.2⟩ e6 ⟨hno,_,e5,by rw [Aa];exact h6.1,Ax h3 h6.2 hlt⟩ hno
 exact k _ _ S ⟨st.ext.step g1 (fun c hc=>st.own.1.2 c hc),g2,g3,st.facts⟩
end
theorem w4{α:Type}{r:Rp α}{c:Value}{x:α}(h: ∀S,r.rc S [c] x)(S:SH): ∀n,qT r S (List.replicate n c) (List.replicate n x)
 |0=>rfl
 |n+1=>⟨[c],_,rfl,h S,w4 h S n⟩
theorem yI{c:Value}{x:α}(n:Nat)(h: ∀S,r.rc S [c] x): ∀S,(oz r n).rc S (List.replicate n c) (List.replicate n x):=fun S=>⟨E3,w4 h S n⟩
def QG(n:Nat):Option Unit:=if n≤68719476736 then some ()else none
def UK(n:Int):Option Unit:=if 0<n then some ()else none
theorem L7{n:Int}{u:Unit}(h:UK n=some u):0<n:=by
 unfold UK at h
 split at h
 ·assumption
 ·cases h
theorem MS{e:Exit}(mm:Bool)(r:Rp α)(T:TypeId)(h:AT E Q e (lP mm r T none 0 []::O) G):AT E Q e O G:=fun a w S st=>h a w S (st.fresh mm r T)
theorem Dw{x:α}(h:eP xs lo (xs.length:Int)=some ys)(hz:xs.take lo.toNat++List.replicate ys.length x=zs):zs.length=xs.length:=by
 obtain⟨l,m,rfl,hm,h1,h2,rfl⟩:=gu h
 have hm' :m=xs.length:=by omega
 subst hm'
 rw [←hz]
 simp
 omega

def tC(n:FuncId)(cts:List Ty):Ty where
 p:=fun S v=> ∃cap:List Value,v= .func (.func n) #[] cap.toArray∧wH S cts cap
 mono:=fun h ⟨cap,e,k⟩=>⟨cap,e,wH.mono h k⟩
section
section
variable{ty:TypeId}
theorem FY{fid:FuncId}{caps:List Operand}{cts:List Ty}(hcap:mi E.N G caps cts):cE E O G ⟨dst,.makeFunc (.func fid) #[] caps.toArray,ty,pos,after,g⟩ (tC fid cts):=
 .of_pure fun a w S _ _ hf=>⟨.func (.func fid) #[] (caps.map a.eval).toArray,by simp [execOp,Instr.makeFunc],_,rfl,hcap.tys hf⟩
end
theorem Dt{n:FuncId}{cts:List Ty}{ty:TypeId}{fo:Operand}{xs:List Operand}(O1 Or:List OE){t:OI→Ty}{O2:OI→List OE}(hO:O=O1++Or)(hc:an E.P n=true)(hs:dK E.P n (ts++cts) O1 t O2)(hf:aK E.N G fo (tC n cts))(hx:mi E.N G xs ts)(hpost: ∀i,O2 i++Or=post i):
  EffOK E O G ⟨some d,.call ⟨.value fo,xs.toArray,ats⟩,ty,pos,after,g⟩ post t:=fun a w S hsat ho hF hb=>by
 subst hO
 obtain rfl:(fun i=>O2 i++Or)=post:=funext hpost
 obtain⟨cap,e,hcap⟩:=hf S a hF
 have hr:(execOp a.eval ⟨some d,.call ⟨.value fo,xs.toArray,ats⟩,ty,pos,after,g⟩).run E.P w= .ok (.enter n ((xs.map a.eval).toArray++cap.toArray)) w:=by
  simp [execOp,resolve,e,Deferred.ofValue,invoke,iP hc]
 refine⟨fun c h=>(by cases h),?_⟩
 rw [hr]
 have e2:(xs.map a.eval).toArray++cap.toArray=((xs.map a.eval)++cap).toArray:=by simp
 rw [e2]
 exact(hs w S _ hsat ((hx.tys hF).append hcap) (qv ho).1.weak).mono fun en w' ⟨i,v,S',he,hv,h1,h2,h3,h4⟩=>⟨_,he,v,S',i,rfl,h1.more fun b ⟨f,hf,hb⟩=>⟨f,CS _ hf,hb⟩,h2,fR.turn ho hb h1 h3 h4,hv⟩
end

def CE{α:Type}(xs:List α)(lo:Int)(n:Nat)(i:Int):Option α:=if 0≤i∧i<(n:Int)then gj xs (lo+i)else none
theorem wB{i:Int}(h:CE xs lo n i=some y):0≤i∧i<(n:Int)∧gj xs (lo+i)=some y:=by
 unfold CE at h
 split at h
 ·rename_i hc;exact⟨hc.1,hc.2,h⟩
 ·cases h
theorem y8(h:eP xs lo hi=some ys):0≤lo:=by
 obtain⟨l,m,rfl,_,_,_,_⟩:=gu h
 omega
section
theorem pP(hm:lP mm r T l cap xs∈O)(hs:eP xs lo hi=some ys)(h:(l=none→ys.length=0)∧ys.length≤maxLen→RG E ops Q rest O G):RG E ops Q rest O G:=fun a w S st=>by
 refine h ?_ a w S st
 obtain⟨cells,h1,_⟩:=(st.own.mem _ hm).1
 obtain⟨l',m,_,_,_,h8,rfl⟩:=gu hs
 have hlen:((xs.take m).drop l').length≤xs.length:=by simp;omega
 cases l with
 |none=>have:=h1.1;exact⟨fun _=>by omega,by omega⟩
 |some b=>obtain⟨cur,_,g2,g3,_⟩:=h1;exact⟨fun h=>(by cases h),by omega⟩
section
variable{ty:TypeId}
theorem IK{lo:Nat}(ht:E.P.underlying t=some (.slice e))(hv:l=none→n=0)(hx:aK E.N G x (tV (m0 sz l cap lo n))):
  cE E O G ⟨dst,.call ⟨.builtin .len,#[x],#[t]⟩,ty,pos,after,g⟩ (tD (rI .i64) (n:Int)):=
 .of_pure fun a w S _ ho hf=>by
  have h1:a.eval x=m0 sz l cap lo n:=hx S a hf
  obtain⟨ad,c,h3⟩: ∃ad c,m0 sz l cap lo n= .slice ad n c:=by
   cases l with
   |none=>rw [hv rfl];exact⟨none,0,rfl⟩
   |some b=>exact⟨_,_,rfl⟩
  refine⟨.int .i64 n,?_,eO.2 rfl⟩
  simp [execOp,resolve,invoke,builtin,Builtin.len_,jQ ht,h1,h3,goInt]
theorem tf{i:Int}(ht:E.P.underlying t=some (.slice e))(ti:TI E.P e sz bytes agg z)(hsz:r.sz=sz)(hm:lP mm r U l cap xs∈O)(hl0:0≤lo)(hx:aK E.N G x (tV (m0 sz l cap lo.toNat n)))(hi' :aK E.N G ix (tD (rI k) i))(hy:CE xs lo n i=some y):
  cE E O G ⟨dst,.indexAddr t x ix,ty,pos,after,g⟩ (tV (xB l ((lo+i).toNat*sz+0))):=
 .of_pure fun a w S _ ho hf=>by
  subst hsz
  have h1:a.eval x=m0 r.sz l cap lo.toNat n:=hx S a hf
  have h3:a.eval ix= .int k i:=eO.1 (hi' S a hf)
  obtain⟨hi0,hin,hxi⟩:=wB hy
  obtain⟨_,hx'⟩:=mp hxi
  obtain⟨b,cur,rfl,_,hle,_⟩:=vE (ho.mem _ hm).1 hx'
  have hlt2:(lo+i).toNat<xs.length:=(kF.1 hx').1
  have hne: ¬(cap=lo.toNat):=by omega
  refine⟨_,?_,rfl⟩
  have hc:0≤i∧i<(n:Int):=⟨hi0,hin⟩
  have e1:(lo+i).toNat=lo.toNat+i.toNat:=by omega
  simp [execOp,h1,h3,m0,hne,Instr.indexAt,asIntOf,jQ ht,hc,ti.sizeOf,jf,xB,aL,e1,u9]
end
end

section
variable{ty:TypeId}{l:List Oper}
end

theorem og3 [Inhabited α]{c b:Bool}{x:Option α}{k:α→Option β}{d:Option β}{r:β}(h:c=true→(if b=true then x.bind k else d)=some r): ∃y,((c&&b)=true→x=some y∧k y=some r)∧(c=true→b=false→d=some r):=by
 cases c with
 |false=>exact⟨default,fun e=>(by cases e),fun e=>(by cases e)⟩
 |true=>
  obtain⟨y,h1,h2⟩:=og (h rfl)
  exact⟨y,fun e=>h1 e,fun _ e=>h2 e⟩
def tg{κ β:Type} [DecidableEq κ]:List (κ×β)→κ→Option β
 |[],_=>none
 |p::m,k=>if p.1=k then some p.2 else tg m k
def gi{κ β:Type} [DecidableEq κ]:List (κ×β)→κ→β→List (κ×β)
 |[],k,v=>[(k,v)]
 |p::m,k,v=>if p.1=k then(k,v)::m else p::gi m k v
def GS{κ:Type}(P:Program)(kt:TypeId)(kv:κ→Value):Prop:= ∃d,P.underlying kt=some d∧(∀a,MapKept.IsKey d (kv a))∧ ∀a b,kv a=kv b→a=b
def US(k:IntKind)(n:Int):Value:= .int k n
theorem iz{kt:TypeId}(h:P.underlying kt=some (.int k)):GS P kt (US k):=⟨_,h,fun _=>rfl,fun a b e=>by injection e⟩
structure MV(β:Type) where
 p:World→SH→β→Option Nat×Nat→Value→Prop
 here: ∀{w S y o v},p w S y o v→ ∀j,o.1=some j→j<w.heap.size
 kept: ∀{C w w' S S' y o v},p w S y o v→kj C w S w' S' →(∀j,o.1=some j→ ¬C j)→p w' S' y o v
def Di{β:Type}(ty:β→Ty):MV β where
 p:=fun _ S y o v=>o.1=none∧(ty y).p S v
 here:=fun h j hj=>by rw [h.1]at hj;cases hj
 kept:=fun h k _=>⟨h.1,(ty _).mono k.keep h.2⟩
section
variable{κ:Type} [DecidableEq κ]{V:MV β}{kv:κ→Value}{d:TypeDesc}{k:κ}
def u5(V:MV β)(kv:κ→Value)(w:World)(S:SH)(h:Option κ):List MapEntry→List (Option Nat×Nat)→List (κ×β)→Prop
 |[],[],[]=>True
 |e::es,o::os,q::m=>e.key=kv q.1∧(if h=some q.1 then o.1=none else V.p w S q.2 o e.val)∧(∀o' ∈os,∀j,o.1=some j→o'.1≠some j)∧(∀p∈m,p.1≠q.1)∧u5 V kv w S h es os m
 |_,_,_=>False
theorem Dq{h:Option κ}: ∀{es:List MapEntry} {os:List (Option Nat×Nat)} {m:List (κ×β)},u5 V kv w S h es os m→ ∀o∈os,∀j,o.1=some j→j<w.heap.size
 |[],[],[],_,o,ho,_,_=>by cases ho
 |e::es,o::os,q::m,⟨_,h2,_,_,h5⟩,o',ho,j,hj=>by
  rcases jW.1 ho with rfl|ho
  ·split at h2
   ·rw [h2]at hj;cases hj
   ·exact V.here h2 j hj
  ·exact Dq h5 o' ho j hj
theorem yE{C:Nat→Prop}(k:kj C w S w' S'){h:Option κ}: ∀{es:List MapEntry} {os:List (Option Nat×Nat)} {m:List (κ×β)},u5 V kv w S h es os m→(∀o∈os,∀j,o.1=some j→ ¬C j)→u5 V kv w' S' h es os m
 |[],[],[],_,_=>trivial
 |e::es,o::os,q::m,⟨h1,h2,h3,h4,h5⟩,hC=>⟨h1,by
  split
  ·rename_i hh;rw [bq hh]at h2;exact h2
  ·rename_i hh;rw [aW hh]at h2;exact V.kept h2 k (hC o (nf ..)),h3,h4,yE k h5 fun o' ho=>hC o' (oO _ ho)⟩
theorem zV{h:Option κ}: ∀{es:List MapEntry} {os:List (Option Nat×Nat)} {m:List (κ×β)},u5 V kv w S h es os m→(∀p∈m,h≠some p.1)→u5 V kv w S none es os m
 |[],[],[],_,_=>trivial
 |e::es,o::os,q::m,⟨h1,h2,h3,h4,h5⟩,hk=>⟨h1,by
  rw [aW (hk q (nf ..))]at h2
  rw [aW (by simp)];exact h2,h3,h4,zV h5 fun p hp=>hk p (oO _ hp)⟩
theorem rs(hd: ∀a,MapKept.IsKey d (kv a))(hi: ∀a b,kv a=kv b→a=b)(a b:κ):Instr.sameNow d (kv a) (kv b)=some (decide (a=b)):=by
 obtain⟨r,h1,h2⟩:=MapKept.sameNow_of_keys (hd a) (hd b)
 rw [h1]
 by_cases h:a=b
 ·subst h;rw [h2.2 rfl];simp
 ·rw [xe h]
  cases r with
  |false=>rfl
  |true=>exact absurd (hi _ _ (h2.1 rfl)) h
theorem uC(hd: ∀a,MapKept.IsKey d (kv a))(hi: ∀a b,kv a=kv b→a=b): ∀{es:List MapEntry} {os:List (Option Nat×Nat)} {m:List (κ×β)} (i:Nat),u5 V kv w S none es os m→
  ∃os',(∀x∈os',x∈os∨x.1=none)∧u5 V kv w S (some k) es os' m∧
   ((tg m k=none∧Instr.findNow d (kv k) es i=some none)∨ ∃(y:β) (o:Option Nat×Nat) (e:MapEntry) (j:Nat),tg m k=some y∧o∈os∧V.p w S y o e.val∧Instr.findNow d (kv k) es i=some (some (j,e.val))∧ ∀x∈os',∀q,o.1=some q→x.1≠some q)
 |[],[],[],i,_=>⟨[],fun x hx=>(by cases hx),trivial,.inl ⟨rfl,rfl⟩⟩
 |e::es,o::os,q::m,i,⟨h1,h2,h3,h4,h5⟩=>by
  rw [aW (by simp)]at h2
  by_cases hk:q.1=k
  ·refine⟨(none,0)::os,fun x hx=>?_,⟨h1,by rw [bq (by rw [hk])],fun _ _ _ hj=>(by cases hj),h4,?_⟩,.inr ⟨q.2,o,e,i,by unfold tg;rw [bq hk],nf ..,h2,?_,fun x hx j hj=>?_⟩⟩
   ·rcases jW.1 hx with rfl|hx
    ·exact .inr rfl
    ·exact .inl (oO _ hx)
   ·have: ∀{es:List MapEntry} {os:List (Option Nat×Nat)} {m:List (κ×β)},u5 V kv w S none es os m→(∀p∈m,p.1≠k)→u5 V kv w S (some k) es os m:=by
     intro es
     induction es with
     |nil=>intro os m h _;cases os<;>cases m<;>first|trivial|exact h.elim
     |cons e es ih=>
      intro os m h hm
      cases os with
      |nil=>cases m<;>exact h.elim
      |cons o os=>
       cases m with
       |nil=>exact h.elim
       |cons q m=>
        obtain⟨g1,g2,g3,g4,g5⟩:=h
        rw [aW (by simp)]at g2
        exact⟨g1,by rw [aW (fun e=>hm q (nf ..) (qL e).symm)];exact g2,g3,g4,ih g5 fun p hp=>hm p (oO _ hp)⟩
    exact this h5 (fun p hp=>by rw [←hk];exact h4 p hp)
   ·unfold Instr.findNow
    rw [h1,rs hd hi,hk,decide_eq_true rfl]
   ·rcases jW.1 hx with rfl|hx
    ·exact fun e=>by cases e
    ·exact h3 x hx j hj
  ·obtain⟨os',g1,g2,g3⟩:=uC hd hi (i+1) h5
   refine⟨o::os',fun x hx=>?_,⟨h1,by rw [aW (fun e=>hk (qL e).symm)];exact h2,fun o' ho' j hj=>?_,h4,g2⟩,?_⟩
   ·rcases jW.1 hx with rfl|hx
    ·exact .inl (nf ..)
    ·exact(g1 x hx).imp (oO _) id
   ·rcases g1 o' ho' with h|h
    ·exact h3 o' h j hj
    ·rw [h];exact fun e=>by cases e
   ·have hf:Instr.findNow d (kv k) (e::es) i=Instr.findNow d (kv k) es (i+1):=by
     conv=>lhs;unfold Instr.findNow
     rw [h1,rs hd hi,xe (fun e=>hk e.symm)]
    have hm:tg (q::m) k=tg m k:=by conv=>lhs;unfold tg;rw [aW hk]
    rw [hf,hm]
    refine g3.imp id fun⟨y,o1,e1,j,f1,f2,f3,f4,f5⟩=>⟨y,o1,e1,j,f1,oO _ f2,f3,f4,fun x hx q hq=>?_⟩
    rcases jW.1 hx with rfl|hx
    ·exact fun e=>h3 o1 f2 q e hq
    ·exact f5 x hx q hq
theorem F7(x:α)(xs:List α)(j:Nat)(f:α→α):(x::xs).modify (j+1) f=x::xs.modify j f:=by simp [List.modify_succ_cons]
theorem Dr(hd: ∀a,MapKept.IsKey d (kv a))(hi: ∀a b,kv a=kv b→a=b){y:β}{o:Option Nat×Nat}{v:Value}{born:Nat}(hv:V.p w S y o v): ∀{es:List MapEntry} {os:List (Option Nat×Nat)} {m:List (κ×β)} (i:Nat),u5 V kv w S (some k) es os m→(∀o' ∈os,∀j,o.1=some j→o'.1≠some j)→
    ∃os',(∀x∈os',x∈os∨x=o)∧
      ((∃(j:Nat) (e:MapEntry),Instr.findNow d (kv k) es i=some (some (i+j,e.val))∧es[j]? =some e∧e.key=kv k∧u5 V kv w S none (es.modify j fun e=>{e with key:=kv k,val:=v}) os' (gi m k y))∨
        (Instr.findNow d (kv k) es i=some none∧u5 V kv w S none (es++[⟨kv k,v,born⟩]) os' (gi m k y)))
  |[],[],[],i,_,_=>⟨[o],fun x hx=> .inr (Cj.1 hx),.inr ⟨rfl,⟨rfl,by rw [aW (by simp)];exact hv,fun _ h=>(by cases h),fun _ h=>(by cases h),trivial⟩⟩⟩
  |e::es,o1::os,q::m,i,⟨h1,h2,h3,h4,h5⟩,ha=>by
    by_cases hk:q.1=k
    · refine⟨o::os,fun x hx=>?_,.inl ⟨0,e,?_,rfl,by rw [h1,hk],?_⟩⟩
      · rcases jW.1 hx with rfl|hx
        · exact .inr rfl
        · exact .inl (oO _ hx)
      · unfold Instr.findNow
        rw [h1,rs hd hi,hk,decide_eq_true rfl]
        rfl
      · unfold gi
        rw [bq hk,List.modify_zero_cons]
        exact⟨rfl,by rw [aW (by simp)];exact hv,fun o' ho' =>ha o' (oO _ ho'),fun p hp=>by rw [←hk];exact h4 p hp,
          zV h5 fun p hp e=>h4 p hp (by rw [hk];exact(qL e).symm)⟩
    · obtain⟨os',g1,g2⟩:=Dr hd hi (born:=born) hv (i+1) h5 fun o' ho' =>ha o' (oO _ ho')
      rw [aW (fun e=>hk (qL e).symm)]at h2
      have hf:Instr.findNow d (kv k) (e::es) i=Instr.findNow d (kv k) es (i+1):=by
        conv=>lhs;unfold Instr.findNow
        rw [h1,rs hd hi,xe (fun e=>hk e.symm)]
      have hm:gi (q::m) k y=q::gi m k y:=by conv=>lhs;unfold gi;rw [aW hk]
      have hap: ∀o' ∈os',∀j,o1.1=some j→o'.1≠some j:=fun o' ho' j hj=>by
        rcases g1 o' ho' with h|rfl
        · exact h3 o' h j hj
        · exact fun e=>ha o1 (nf ..) j e hj
      have hne: ∀p∈gi m k y,p.1≠q.1:=by
        have: ∀m:List (κ×β),(∀p∈m,p.1≠q.1)→ ∀p∈gi m k y,p.1≠q.1:=by
          intro m
          induction m with
          |nil=>intro _ p hp;rw [Cj.1 hp];exact fun e=>hk e.symm
          |cons p0 m ih=>
            intro hm p hp
            unfold gi at hp
            split at hp
            · rcases jW.1 hp with rfl|hp
              · exact fun e=>hk e.symm
              · exact hm p (oO _ hp)
            · rcases jW.1 hp with rfl|hp
              · exact hm _ (nf ..)
              · exact ih (fun p hp=>hm p (oO _ hp)) p hp
        exact this m h4
      rw [hf,hm]
      refine⟨o1::os',fun x hx=>?_,g2.imp (fun⟨j,e',f1,f2,f3,f4⟩=>⟨j+1,e',by rw [f1];congr 3;omega,by simpa using f2,f3,?_⟩) fun⟨f1,f2⟩=>⟨f1,?_⟩⟩
      · rcases jW.1 hx with rfl|hx
        · exact .inl (nf ..)
        · exact(g1 x hx).imp (oO _) id
      · rw [F7]
        exact⟨h1,by rw [aW (by simp)];exact h2,hap,hne,f4⟩
      · exact⟨h1,by rw [aW (by simp)];exact h2,hap,hne,f2⟩
theorem Dp{h:Option κ}: ∀{es:List MapEntry} {os:List (Option Nat×Nat)} {m:List (κ×β)},u5 V kv w S h es os m→ ∀x∈es,∃q∈m,x.key=kv q.1
 |[],[],[],_,x,hx=>by cases hx
 |e::es,o::os,q::m,⟨h1,_,_,_,h5⟩,x,hx=>by
  rcases jW.1 hx with rfl|hx
  ·exact⟨q,nf ..,h1⟩
  ·obtain⟨q',g1,g2⟩:=Dp h5 x hx
   exact⟨q',oO _ g1,g2⟩
theorem Kl(hd: ∀a,MapKept.IsKey d (kv a)){h:Option κ}{es:List MapEntry}{os:List (Option Nat×Nat)}{m:List (κ×β)}(h4:u5 V kv w S h es os m)(g1:Instr.findNow d (kv k) es i=some none){x:MapEntry}(hx:x∈es):x.key≠kv k:=by
 rcases MapKept.findNow_spec (hd k) es i (fun y hy=>by obtain⟨q,_,e⟩:=Dp h4 y hy;rw [e];exact hd _)with⟨_,h2⟩|⟨j,e,h2,_⟩
 ·exact h2 x hx
 ·rw [g1]at h2;cases h2
def tP(V:MV β)(kv:κ→Value)(b:Nat)(h:Option κ)(os:List (Option Nat×Nat))(m:List (κ×β)):OE where
 fp:=fun j=>j=b∨ ∃o∈os,o.1=some j
 p:=fun w S=>S b=none∧(∀o∈os,o.1≠some b)∧ ∃es clock,w.heap[b]? =some (.map es clock)∧u5 V kv w S h es.toList os m∧MapKept.Stamped es clock
 here:=by
  intro w S ⟨_,_,es,clock,h3,h4,_⟩ j hj
  rcases hj with rfl|⟨o,ho,hj⟩
  ·exact(DG.1 h3).1
  ·exact Dq h4 o ho j hj
 kept:=by
  intro C w w' S S' ⟨h1,h2,es,clock,h3,h4,hst⟩ k hC
  have hlt:=(DG.1 h3).1
  exact⟨by rw [k.old b hlt (hC b (.inl rfl))];exact h1,h2,es,clock,by rw [k.heap b hlt (hC b (.inl rfl))];exact h3,yE k h4 (fun o ho j hj=>hC j (.inr ⟨o,ho,hj⟩)),hst⟩
def th(b:Nat):Value:= .map (some b)
end
section
variable{κ:Type} [DecidableEq κ]{V:MV β}{kv:κ→Value}{os:List (Option Nat×Nat)}{m:List (κ×β)}{k:κ}{kt et:TypeId}{i v:Operand}{dst:Option Nat}{ty:TypeId}
def Jr(N:Fr)(G:mX)(x:Operand)(u:Value):Prop:= ∀S a,cT N S a G→a.eval x=u
theorem sw{N:Fr}{q:IntKind}{n:Int}(h:aK N G x (tD (rI q) n)):Jr N G x (US q n):=fun S a hf=>eO.1 (h S a hf)
def ZV(P:Program)(T:TypeId)(z:Value):Prop:=(P.info? T).bind (·.zero)=some z
theorem ZV.run{z:Value}(h:ZV P T z)(w:World):(zeroValue T).run P w= .ok z w:=by
 unfold ZV at h
 cases hi:P.info? T with
 |none=>rw [hi]at h;cases h
 |some i=>
  rw [hi]at h
  have h' :i.zero=some z:=h
  simp [zeroValue,typeInfo,hi,h']
theorem BY(V:MV β)(kv:κ→Value)(hd:Nat.blt d E.N.n=true)(k: ∀b,RG E ops Q rest (tP V kv b none [] []::O) ((d,tV (th b))::G)):
  RG E ops Q (⟨some d,.makeMap t none,ty,pos,after,none⟩::rest) O G:= .of rfl fun a w S st=>by
 obtain⟨he,hs',hno⟩:=lj (w:=w) (.map #[] 0) st.sat
 have hrun:(execOp a.eval ⟨some d,.makeMap t none,ty,pos,after,none⟩).run E.P w= .ok (.value (th w.heap.size)) (w.alloc (.map #[] 0)):=by
  simp [execOp,Instr.makeMap,th]
 refine⟨fun c h=>(by cases h),?_⟩
 rw [hrun]
 exact k w.heap.size _ _ S ⟨st.ext.step0 he,hs',sP st.own he ⟨hno,fun _ h=>(by cases h),#[],0,xM w _,trivial,MapKept.stamped_empty 0⟩ (fun b hb=>by
  rcases hb with rfl|⟨_,h,_⟩
  ·exact eE _
  ·cases h) st.base_le,st.facts.put hd rfl⟩
theorem qy{kk:Value}{es:Array MapEntry}{clock:Nat}{q:TypeDesc}{z:Value}{u:Option (Nat×Value)}(hm:P.underlying t=some (.map kt et))(hq:P.underlying kt=some q)(hk:MapKept.IsKey q kk)(hb:w.heap[b]? =some (.map es clock))(hz:ZV P et z)(hf:Instr.findNow q kk es.toList 0=some u)(c:Bool):(Instr.lookup t (th b) kk c).run P w= .ok (if c then .tuple #[(u.map (·.2)).getD z,.bool u.isSome]else(u.map (·.2)).getD z) w:=by
 cases u with
 |none=>simp [Instr.lookup,th,jQ hm,Io hb,Im hq hk,MapKept.run_findKey hq hf,hz.run,Result.andThen]
 |some r=>simp [Instr.lookup,th,jQ hm,Io hb,Im hq hk,MapKept.run_findKey hq hf,Result.andThen]
theorem FZ{γ:β→Ty}{z:β}{zv:Value}(hm:E.P.underlying t=some (.map kt et))(hk:GS E.P kt kv)(hz:ZV E.P et zv)(hzt: ∀S,(γ z).p S zv)(hmem:tP (Di γ) kv b none os m∈O)(hx:aK E.N G x (tV (th b)))(hi:Jr E.N G i (kv k)):
  cE E O G ⟨dst,.lookup t x i true,ty,pos,after,g⟩ (tT [γ ((tg m k).getD z),tD rB (tg m k).isSome]):= .of_pure fun a w S hs ho hf=>by
 obtain⟨⟨_,_,es,clock,h3,h4,_⟩,_⟩:=fR.mem ho _ hmem
 obtain⟨q,hq,hd,hinj⟩:=hk
 have h1:a.eval x=th b:=hx S a hf
 have h2:a.eval i=kv k:=hi S a hf
 obtain⟨_,_,_,h5⟩:=uC hd hinj (k:=k) 0 h4
 rcases h5 with⟨g1,g2⟩|⟨y,o,e,j,g1,g2,g3,g4,g5⟩
 ·refine⟨.tuple #[zv,.bool false],by simp [execOp,h1,h2,qy hm hq (hd k) h3 hz g2],[zv,.bool false],rfl,by rw [g1];exact hzt S,gY.2 (by rw [g1];rfl),trivial⟩
 ·refine⟨.tuple #[e.val,.bool true],by simp [execOp,h1,h2,qy hm hq (hd k) h3 hz g4],[e.val,.bool true],rfl,by rw [g1];exact g3.2,gY.2 (by rw [g1];rfl),trivial⟩
theorem y9{kk:Value}{es:Array MapEntry}{clock:Nat}{q:TypeDesc}{val:Value}(hm:P.underlying t=some (.map kt et))(hq:P.underlying kt=some q)(hk:MapKept.IsKey q kk)(hb:w.heap[b]? =some (.map es clock)):
  (Instr.findNow q kk es.toList 0=some none→(Instr.mapUpdate t (th b) kk val).run P w= .ok () {w with heap:=w.heap.setIfInBounds b (.map (es.push ⟨kk,val,clock⟩) (clock+1))})∧
  (∀j e,Instr.findNow q kk es.toList 0=some (some (j,e))→(∀e',es.toList[j]? =some e' →e'.key=kk)→(∃e',es.toList[j]? =some e')→(Instr.mapUpdate t (th b) kk val).run P w= .ok () {w with heap:=w.heap.setIfInBounds b (.map (es.modify j fun e=>{e with key:=kk,val:=val}) clock)}):=by
 refine⟨fun hf=>?_,fun j e hf hj he=>?_⟩
 ·simp [Instr.mapUpdate,th,jQ hm,Io hb,Im hq hk,MapKept.run_findKey hq hf,MapKept.run_setObj_map _ hb,Result.andThen]
 ·obtain⟨e',he'⟩:=he
  have h1:=hj e' he'
  have h2:es[j]? =some e' :=by simpa using he'
  simp [Instr.mapUpdate,th,jQ hm,Io hb,Im hq hk,MapKept.run_findKey hq hf,MapKept.run_setObj_map _ hb,Result.andThen,h2,h1,MapKept.run_keyThatStays hk]
theorem J8{y:β}{o:Option Nat×Nat}{val:Value}(hs:lI w S)(hm:E.P.underlying t=some (.map kt et))(hk:GS E.P kt kv)(hp:(tP V kv b (some k) os m).p w S)(hv:V.p w S y o val)(hob:o.1≠some b)(hap: ∀o' ∈os,∀j,o.1=some j→o'.1≠some j):
  ∃w' os',(Instr.mapUpdate t (th b) (kv k) val).run E.P w= .ok () w' ∧kj (fun j=>j=b) w S w' S∧lI w' S∧(tP V kv b none os' (gi m k y)).p w' S∧(∀j,(tP V kv b none os' (gi m k y)).fp j→(tP V kv b (some k) os m).fp j∨o.1=some j):=by
 obtain⟨hno,hnb,es,clock,h3,h4,hst⟩:=hp
 obtain⟨q,hq,hdk,hinj⟩:=hk
 obtain⟨os',p1,p2⟩:=Dr hdk hinj (born:=clock) hv 0 h4 hap
 have hnb' : ∀o' ∈os',o'.1≠some b:=fun o' ho' =>by
  rcases p1 o' ho' with h|rfl
  ·exact hnb o' h
  ·exact hob
 have hfp: ∀j,(j=b∨ ∃o∈os',o.1=some j)→(j=b∨ ∃o∈os,o.1=some j)∨o.1=some j:=fun j hj=>by
  rcases hj with h|⟨o',ho',e⟩
  ·exact .inl (.inl h)
  ·rcases p1 o' ho' with h|rfl
   ·exact .inl (.inr ⟨o',h,e⟩)
   ·exact .inr e
 have hw: ∀X:Obj,kj (fun j=>j=b) w S {w with heap:=w.heap.setIfInBounds b X} S∧lI {w with heap:=w.heap.setIfInBounds b X} S∧({w with heap:=w.heap.setIfInBounds b X}:World).heap[b]? =some X:=fun X=>
  ⟨⟨rfl,rfl,rfl,eE _,by simp,fun j _ hj=>(MapKept.heap_set (o' :=X) h3).2 j hj,SH.le_refl _,fun _ _ _=>rfl⟩,hs.same fun j o hj=>(MapKept.heap_set (o' :=X) h3).2 j (fun e=>by subst e;rw [hno]at hj;cases hj),(MapKept.heap_set h3).1⟩
 obtain⟨r1,r2⟩:=y9 (val:=val) hm hq (hdk k) h3
 rcases p2 with⟨j,e,g1,g2,g3,g4⟩|⟨g1,g2⟩
 ·rw [va]at g1
  obtain⟨x1,x2,x3⟩:=hw (.map (es.modify j fun e=>{e with key:=kv k,val:=val}) clock)
  refine⟨_,os',r2 j _ g1 (fun e' he' =>by rw [g2]at he';cases he';exact g3) ⟨_,g2⟩,x1,x2,⟨hno,hnb',_,_,x3,?_,MapKept.stamped_modify hst j _ (fun _ _=>rfl) (fun e' _ he' =>by rw [←Array.getElem?_toList,g2]at he';cases he';exact g3.symm)⟩,hfp⟩;refine yE x1 (by rw [Array.toList_modify];exact g4) fun o' ho' j hj e=>?_
  subst e
  exact hnb' o' ho' hj
 ·obtain⟨x1,x2,x3⟩:=hw (.map (es.push ⟨kv k,val,clock⟩) (clock+1))
  refine⟨_,os',r1 g1,x1,x2,⟨hno,hnb',_,_,x3,?_,MapKept.stamped_push hst (fun x hx e=>?_)⟩,hfp⟩
  rotate_left
  ·exact Kl hdk h4 g1 hx e
  refine yE x1 (by rw [Array.toList_push];exact g2) fun o' ho' j hj e=>?_
  subst e
  exact hnb' o' ho' hj
end

def D4(tmps:Array Value):ResultVar→Sem Value
 | .tmp t=>pure (tmps.getD t undef)
 | .cell a t=>do loadVar t (←asAddr (tmps.getD a undef))
def PQ(P:Program)(N:Fr)(G:mX)(rv:ResultVar)(t:Ty):Prop:= ∀a w S,lI w S→cT N S a G→ ∃v,(D4 a.tmps rv).run P w= .ok v w∧t.p S v
theorem Av{N:Fr}{k:Nat}{t:Ty}(hk:d9 G k=some t):PQ P N G (.tmp k) t:=fun a w S _ hf=>⟨_,rfl,hf.at_ k t hk⟩
def MM(P:Program)(N:Fr)(G:mX):List ResultVar→List Ty→Prop
 |[],[]=>True
 |rv::rvs,t::ts=>PQ P N G rv t∧MM P N G rvs ts
 |_,_=>False
theorem MM.run{N:Fr}(hs:lI w S)(hf:cT N S a G): ∀{rvs:List ResultVar} {ts:List Ty},MM P N G rvs ts→ ∃vs,(rvs.mapM (D4 a.tmps)).run P w= .ok vs w∧wH S ts vs∧vs.length=rvs.length
 |[],[],_=>⟨[],rfl,trivial,rfl⟩
 |rv::rvs,t::ts,⟨h1,h2⟩=>by
  obtain⟨v,g1,g2⟩:=h1 a w S hs hf
  obtain⟨vs,k1,k2,k3⟩:=MM.run hs hf h2
  exact⟨v::vs,by simp [List.mapM_cons,g1,k1,Result.andThen],⟨g2,k2⟩,by simp [k3]⟩
theorem Lq{v:Value}(h:(tD (gB r) xs).p S v):(gB r).rc S [v] xs:=by
 obtain⟨cs,e,h2⟩:=h
 obtain⟨a,cap,e2,h3⟩:=h2
 subst e2
 rw [e]
 exact⟨a,cap,rfl,h3⟩
section
variable{ty:TypeId}
theorem mP{r:Rp β}{get:β→Value}{x:β}{p:Operand}(ti:TI E.P U 1 bytes false z)(hget:lK r off rV get)(hm:bx r T b x∈O)(hv:get x=ax l cap n)(hp:aK E.N G p (tV (aL b off))):
  cE E O G ⟨dst,.load U p,ty,pos,after,g⟩ (tV (ax l cap n)):=(br (q:=rV) ti rfl rfl hget hm hp).imp fun _ _ h=>by rw [←hv];exact(xX.1 h).1
theorem kz{q:Rp α}{r:Rp β}{get:β→Value}{x:β}{V:TypeId}{p:Operand}(ti:TI E.P U 1 bytes false z)(hget:lK r off rV get)(hm:bx r T b x∈O)(hm2:tip q V l cap xs∈O)(hv:get x=ax l cap xs.length)(hp:aK E.N G p (tV (aL b off))):
  cE E O G ⟨dst,.load U p,ty,pos,after,g⟩ (tO q l cap xs):=fun a w S hs ho hf=>
 oh (fun _ _ ⟨v,S',h1,h2,h3,h4⟩=>⟨v,S',h1,h2,h3,h4,by
  have h5:v=ax l cap xs.length:=h4
  rw [h5]
  exact mj (((ho.ext0 h2).mem _ hm2).1)⟩) (mP (g:=g) (ty:=ty) (pos:=pos) (after:=after) (dst:=dst) ti hget hm hv hp a w S hs ho hf)
theorem bU{o:Nat}{p:Operand}(hf:cj E.P T i=some (off,sz))(h0:Nat.beq sz 0=false)(hp:aK E.N G p (tV (aL b o)))(he:o+off=n):cE E O G ⟨dst,.fieldAddr T p i,ty,pos,after,g⟩ (tV (aL b n)):=by
 subst he
 exact CA hf h0 hp
theorem xw{q:Rp α}{r:Rp β}{x:β}{p:Operand}(ti:TI E.P U sz bytes agg z)(hsz:q.sz=sz)(hag:q.agg=agg)(hag2:r.agg=agg)(hsz2:r.sz=sz)(hm:bx r T b x∈O)(hc: ∀w S cs,fR E.base E.B w S O→r.rc S cs x→q.rc S cs y)(hp:aK E.N G p (tV (aL b 0))):
  cE E O G ⟨dst,.load U p,ty,pos,after,g⟩ (tD q y):= .of_pure fun a w S _ ho hf=>by
 have h1:a.eval p=aL b 0:=hp S a hf
 obtain⟨⟨_,cur,h5,h6⟩,_⟩:=ho.mem _ hm
 have h7:=hc w S _ ho h6
 have hl:=q.len h7
 have h8:q.rc S ((cur.toList.drop 0).take q.sz) y:=by rw [xd,tu (by omega)];exact h7
 exact⟨_,by simp [execOp,h1,aL,Instr.loadAt,Instr.sureAddr,lu ti h5 hsz hag h8],_,rfl,h8⟩
theorem oR{q:Rp α}{V:TypeId}(ho:fR base B w S O)(hm:tip q V l cap xs∈O):(gB q).rc S [ax l cap xs.length] xs:=Lq (mj (ho.mem _ hm).1)
end
def q0{α β γ:Type}(r:Rp α)(r' :Rp γ)(off:Nat)(q:Rp β)(x:α)(y:β)(x' :γ):Prop:= ∀S cs ds,r.rc S cs x→q.rc S ds y→r'.rc S (cs.take off++ds++cs.drop (off+q.sz)) x'
variable{r' :Rp γ}
theorem p8{x:α}{y:γ}(hs:r.sz=r'.sz):q0 r r' 0 r' x y y:=fun S cs ds h1 h2=>by
 have hl:=r.len h1
 rw [List.take_zero,lL,E2 (by omega),t8]
 exact h2
theorem Nj{α' :Type}{p:Rp α}{p' :Rp α'}{x:α×β}{y:γ}{x1:α'}(h:q0 p p' 0 u x.1 y x1)(hu:Nat.ble u.sz p.sz=true):q0 (ci p q) (ci p' q) 0 u x y (x1,x.2):=fun S cs ds ⟨a,b,e,h1,h2⟩ hd=>by
 have hl:=p.len h1
 have hu' :=rm hu
 have h3:=h S a ds h1 hd
 subst e
 rw [List.take_zero,lL,va,KX (by omega),←nh]
 rw [List.take_zero,lL,va]at h3
 exact⟨_,_,rfl,h3,h2⟩
theorem iO{β' :Type}{p:Rp α}{q' :Rp β'}{x:α×β}{y:γ}{off' :Nat}{x2:β'}(h:q0 q q' off u x.2 y x2)(ho:off' =p.sz+off):q0 (ci p q) (ci p q') off' u x y (x.1,x2):=fun S cs ds ⟨a,b,e,h1,h2⟩ hd=>by
 have hl:=p.len h1
 have h3:=h S b ds h2 hd
 subst e ho
 refine⟨a,_,?_,h1,h3⟩
 have e1:p.sz+off-a.length=off:=by omega
 have e2:p.sz+off+u.sz-a.length=off+u.sz:=by omega
 rw [List.take_append,List.drop_append,tu (by omega),E2 (by omega),e1,e2]
 simp
variable{x' :γ}
theorem xZ{α' β' :Type}{p:Rp α}{p' :Rp α'}{f:β→α}{f' :β' →α'}{x:β}{x' :β'}{y:γ}{z:α'}(h:q0 p p' off u (f x) y z)(e:f' x' =z):q0 (ne p f) (ne p' f') off u x y x' :=fun S cs ds h1 h2=>by
 show p'.rc S _ (f' x')
 rw [e]
 exact h S cs ds h1 h2
section
variable{e:Exit}{ty:TypeId}
theorem gc{x:α}{y:β}{p v:Operand}(ti:TI E.P U sz bytes agg z)(hsz:q.sz=sz)(hset:q0 r r' off q x y x')(hoff:Nat.ble (off+q.sz) r.sz=true)(hp:aK E.N G p (tV (aL b off)))(hv:aK E.N G v (tD q y))(k:RG E ops Q rest (bx r' T b x' ::O) G):RG E ops Q (⟨none,.store U p v,ty,pos,after,none⟩::rest) (bx r T b x::O) G:= .of rfl fun a w S st=>by
 have h1:a.eval p=aL b off:=hp S a st.facts
 obtain⟨ds,h2,h3⟩:=hv S a st.facts
 obtain⟨⟨hno,cur,h5,h6⟩,_⟩:=st.own.1
 have hl:=r.len h6
 have hoff' :=rm hoff
 obtain⟨w',hr,e1,e2,e3,e4,e5,e6⟩:=jw ti hsz h3 h5 (off:=off) (by simp at hl;omega)
 have hrun:(execOp a.eval ⟨none,.store U p v,ty,pos,after,none⟩).run E.P w= .ok .skip w' :=by
  simp [execOp,h1,h2,Instr.storeAt,aL,Instr.sureAddr,hr]
 refine⟨fun c h=>(by cases h),?_⟩
 rw [hrun]
 obtain⟨g1,g2,g3⟩:=oe (O:=O) st.sat (bx r T b x) (bx r' T b x') st.own (fun _=>rO) (fun _=>rO) ⟨e1,e2,e3,e4.1,e4.2⟩ e6 ⟨hno,_,e5,by simpa using hset S _ _ h6 h3⟩ hno
 exact k _ _ S ⟨st.ext.step g1 (fun c hc=>st.own.1.2 c hc),g2,g3,st.facts⟩
theorem St.cvB{x:α}(h: ∀w S cs,fR E.base E.B w S O→r.rc S cs x→r'.rc S cs x')(st:St E (bx r T b x::O) G a w S):St E (bx r' T b x' ::O) G a w S:=
 st.own_map fun⟨⟨⟨h1,c,h2,h3⟩,h4⟩,h5,h6⟩=>⟨⟨⟨h1,c,h2,h _ _ _ h6 h3⟩,h4⟩,h5,h6⟩
theorem uM{x:α}(h: ∀w S cs,fR E.base E.B w S O→r.rc S cs x→r'.rc S cs x')(k:AT E Q e (bx r' T b x' ::O) G):AT E Q e (bx r T b x::O) G:=fun a w S st=>k a w S (st.cvB h)
end

section
variable{b:Frame}{k:List Item}{cs:List Frame}{F:Fence}
theorem pc:step P (lone (b.atR a (.code (.scope c)::k)) cs w)= .next (lone (b.atR a (.code c:: .inScope c::k)) cs w):=
 step_lone_go (by simp [stepG,stepG.exec,Frame.atR])
theorem Cq:step P (lone (b.atR a (.inScope c::k)) cs w)= .next (lone (b.atR a k) cs w):=
 step_lone_go (by simp [stepG,stepG.exec,Frame.atR])
theorem Hb(h:c.wpIn F n P (Exit.noGoto Q) a w):(Code.scope c).wpIn F n P Q a w:=by
 intro b k cs hro hb hr
 have h0:(lone (b.atR a (.code (.scope c)::k)) cs w).fenced P F:=fenced_calm hb hr rfl
 obtain⟨e,a₁,w₁,hq,harr⟩:=h b (.inScope c::k) cs hro hb hr
 cases e with
 |normal=>exact⟨.normal,a₁,w₁,hq,.head h0 pc (StepsIn.trans harr (.one (fenced_calm hb hr rfl) Cq))⟩
 |exit id=>
  have hx:exitTo id (.inScope c::k)=exitTo id k:=by simp [exitTo]
  exact⟨.exit id,a₁,w₁,hq,fun k' hk=> .head h0 pc (harr.1 k' (by rw [hx];exact hk)),
   fun hr' hk=>let⟨k₁,h1,h2⟩:=harr.2 hr' (by rw [hx];exact hk);⟨k₁,h1,.head h0 pc h2⟩⟩
 |goto l=>exact hq.elim
 |ret=>exact⟨_,a₁,w₁,hq,.of_steps (.one h0 pc) harr⟩
 |panic ch=>exact⟨_,a₁,w₁,hq,.of_steps (.one h0 pc) harr⟩
 |outgrown=>exact⟨_,a₁,w₁,hq,.of_steps (.one h0 pc) harr⟩
end
section
theorem Ca(h:CG E (Exit.noGoto Q) c O G):CG E Q (.scope c) O G:=fun a w S st=>Hb (h a w S st)
theorem Cb{l:Nat}(h:AT E Q .normal O G):CG E Q (.label l) O G:=fun a w S st=>wpIn_label (h a w S st)
theorem pp(h:AT E Q .ret O G):AT E (Exit.noGoto Q) .ret O G:=h
end

theorem Eo [Inhabited α](h:i<m):lK (oz r m) (i*r.sz) r (fun x=>(x[i]?).getD default):=fun S cs x ⟨h1,h2⟩=>by
 have hi:x[i]? =some ((x[i]?).getD default):=by rw [kW (by omega)];rfl
 exact yk h2 hi
theorem I9 [DecidableEq α] [Inhabited α]{t e:Nat}(ht:P.underlying t=some (.array m e))(ti:TI P e sz bytes agg z)(hsz:r.sz=sz)(hag:r.agg=agg)(he:ko P e r n):ko P t (oz r m) (n+1):=fun S cs ds x y d w hx hy=>by
 obtain⟨i,zv,hi,hs,_⟩:=ti.get
 have hcell:P.cellsOf e=r.sz:=by unfold Program.cellsOf;rw [hi];simp [hs,hsz]
 have e1:(oz r m).val cs= .agg cs.toArray:=rfl
 have e2:(oz r m).val ds= .agg ds.toArray:=rfl
 rw [e1,e2,show d+(n+1)=(d+n)+1 from rfl,run_equalIn_array w (d+n) cs.toArray ds.toArray ht hi,List.range_eq_range',hcell]
 have key: ∀k j,j+k=m→(Op.eqItems (d+n) e r.sz cs.toArray ds.toArray (List.range' j k)).run P w= .ok (decide (x.drop j=y.drop j)) w:=by
  intro k
  induction k with
  |zero=>
   intro j hj
   rw [E2 (by have:=hx.1;omega),E2 (by have:=hy.1;omega)]
   rfl
  |succ k ih=>
   intro j hj
   have hjx:j<x.length:=by have:=hx.1;omega
   have hjy:j<y.length:=by have:=hy.1;omega
   have h1:=rt ti hsz hag (Eo (r:=r) (m:=m) (i:=j) (by omega)) hx w
   have h2:=rt ti hsz hag (Eo (r:=r) (m:=m) (i:=j) (by omega)) hy w
   have h3:=he S _ _ _ _ d w (Eo (r:=r) (m:=m) (i:=j) (by omega) S cs x hx) (Eo (r:=r) (m:=m) (i:=j) (by omega) S ds y hy)
   rw [List.range'_succ]
   unfold Op.eqItems
   simp only [s4,h1,h2,h3,tq]
   have ex:x.drop j=(x[j]?).getD default::x.drop (j+1):=by rw [kW hjx];exact xf hjx
   have ey:y.drop j=(y[j]?).getD default::y.drop (j+1):=by rw [kW hjy];exact xf hjy
   rw [ex,ey]
   by_cases hq:(x[j]?).getD default=(y[j]?).getD default
   ·simp only [hq,decide_true,uY,vb,qK]
    rw [ih (j+1) (by omega)]
    congr 1
    simp
   ·simp [hq]
 have:=key m 0 (by omega)
 simpa using this
section
variable{ty:TypeId}
theorem rK{xs:List Operand}{sz' bytes' :Nat}{agg' :Bool}{z' :List Value}(ht:E.P.underlying t=some (.array m T))(ti:TI E.P T sz bytes agg z)(hsz:r.sz=sz)(tj:TI E.P t sz' bytes' agg' z')(hz:z'.length=m*r.sz)(hm:m=ys.length)(hx:mi E.N G xs (ys.map (tD r))):cE E O G ⟨dst,.build t (xa 0 xs).toArray,ty,pos,after,g⟩ (tD (oz r m) ys):=
 .of_pure fun a w S _ _ hF=>by
  obtain⟨zv,hzr,hzc⟩:=tj.zero w
  obtain⟨cs,hc,hfill⟩:=BI ys (xs.map a.eval) 0 [] z' (hx.tys hF) (by simp) (by rw [hz,hm])
  subst hsz
  have hparts:((xa 0 xs).toArray.map fun(i,x)=>(i,a.eval x)).toList=zU 0 (xs.map a.eval):=by simpa using zn a.eval 0 xs
  rw [lL,lL]at hfill
  refine⟨.agg cs.toArray,?_,cs,rfl,hm.symm,hc⟩
  simp only [execOp,Instr.build,s4,hzr,tq,jQ ht,ti.sizeOf,hzc,hparts,hfill]
  simp
end

def y7(N:Nat):List Nat→List Oper→Bool
 |_,[]=>true
 |seen,o::rest=>match o.dst with
  |some d=>Nat.blt d N&& !(seen.any (Nat.beq d))&&y7 N (d::seen) rest
  |none=>y7 N seen rest
theorem Fu(l:List Oper): ∀(seen:List Nat),y7 N seen l=true→
  (∀o:Oper,o∈l→ ∀d,o.dst=some d→d<N∧d∉seen)∧ ∀(i j:Nat) (o p:Oper) (d:Nat),l[i]? =some o→l[j]? =some p→o.dst=some d→p.dst=some d→i=j:=by
 induction l with
 |nil=>exact fun _ _=>⟨fun _ h=>(by cases h),fun _ _ _ _ _ h=>(by simp at h)⟩
 |cons o l ih=>
  intro seen h
  unfold y7 at h
  cases hd:o.dst with
  |none=>
   rw [hd]at h
   obtain⟨h1,h2⟩:=ih seen h
   refine⟨fun q hq d hqd=>?_,fun i j p q d hi hj hp hq=>?_⟩
   ·rcases jW.1 hq with rfl|hq
    ·rw [hd]at hqd;cases hqd
    ·exact h1 q hq d hqd
   ·cases i with
    |zero=>simp at hi;subst hi;rw [hd]at hp;cases hp
    |succ i=>
     cases j with
     |zero=>simp at hj;subst hj;rw [hd]at hq;cases hq
     |succ j=>rw [h2 i j p q d (by simpa using hi) (by simpa using hj) hp hq]
  |some d0=>
   rw [hd]at h
   simp only [gX,tZ,DD]at h
   obtain⟨⟨g1,g2⟩,g3⟩:=h
   obtain⟨h1,h2⟩:=ih (d0::seen) g3
   have hns:d0∉seen:=fun hm=>by
    have:seen.any (Nat.beq d0)=true:=CP.2 ⟨d0,hm,Nat.beq_refl d0⟩
    rw [this]at g2;cases g2
   refine⟨fun q hq d hqd=>?_,fun i j p q d hi hj hp hq=>?_⟩
   ·rcases jW.1 hq with rfl|hq
    ·rw [hd]at hqd;cases hqd;exact⟨g1,hns⟩
    ·obtain⟨k1,k2⟩:=h1 q hq d hqd
     exact⟨k1,fun hm=>k2 (oO _ hm)⟩
   ·cases i with
    |zero=>
     cases j with
     |zero=>rfl
     |succ j=>
      simp at hi;subst hi
      rw [hd]at hp;cases hp
      exact absurd (nf ..) (h1 q (qM (by simpa using hj)) d0 hq).2
    |succ i=>
     cases j with
     |zero=>
      simp at hj;subst hj
      rw [hd]at hq;cases hq
      exact absurd (nf ..) (h1 p (qM (by simpa using hi)) d0 hp).2
     |succ j=>rw [h2 i j p q d (by simpa using hi) (by simpa using hj) hp hq]
def J1:List Oper→List Ty→mX→mX
 |o::l,t::ts,G=>match o.dst with
  |some d=>(d,t)::J1 l ts G
  |none=>J1 l ts G
 |_,_,G=>G
theorem Ka(l:List Oper): ∀(ts:List Ty) (k:Nat) (t:Ty),ts.length=l.length→d9 (J1 l ts G) k=some t→
  (∃(j:Nat) (o:Oper),l[j]? =some o∧o.dst=some k∧ts[j]? =some t)∨(d9 G k=some t∧ ∀o:Oper,o∈l→o.dst≠some k):=by
 induction l with
 |nil=>
  intro ts k t hl h
  have:ts=[]:=tv (by simpa using hl)
  subst this
  exact .inr ⟨h,fun _ h=>(by cases h)⟩
 |cons o l ih=>
  intro ts k t hl h
  cases ts with
  |nil=>simp at hl
  |cons u ts=>
   unfold J1 at h
   have hl' :ts.length=l.length:=by simpa using hl
   have lift:((∃(j:Nat) (p:Oper),l[j]? =some p∧p.dst=some k∧ts[j]? =some t)∨(d9 G k=some t∧ ∀p:Oper,p∈l→p.dst≠some k))→o.dst≠some k→
     (∃(j:Nat) (p:Oper),(o::l)[j]? =some p∧p.dst=some k∧(u::ts)[j]? =some t)∨(d9 G k=some t∧ ∀p:Oper,p∈o::l→p.dst≠some k):=by
    rintro(⟨j,p,h1,h2,h3⟩|⟨h1,h2⟩) hne
    ·exact .inl ⟨j+1,p,by simpa using h1,h2,by simpa using h3⟩
    ·exact .inr ⟨h1,fun p hp=>(jW.1 hp).elim (fun e=>by subst e;exact hne) (h2 p)⟩
   cases hd:o.dst with
   |none=>
    rw [hd]at h
    exact lift (ih ts k t hl' h) (by rw [hd];exact fun e=>by cases e)
   |some d=>
    rw [hd]at h
    simp only at h
    unfold d9 at h
    by_cases hb:Nat.beq d k=true
    ·rw [hb]at h
     have:=q7 hb
     subst this
     have e:u=t:=by simpa using h
     subst e
     exact .inl ⟨0,o,rfl,hd,rfl⟩
    ·rw [Ac]at hb
     rw [hb]at h
     refine lift (ih ts k t hl' h) ?_
     rw [hd]
     intro e
     have:d=k:=qL e
     subst this
     simp at hb
abbrev TS:=List Nat×(List OI→Ty)
def TS.at(p:TS)(σ:Nat→OI):Ty:=p.2 (p.1.map σ)
def tc(t:Ty):TS:=([],fun _=>t)
def KW(Ss:List ((Nat→OI)→List OE))(c:Nat)(σ:Nat→OI):List OE:=match Ss[c]? with|some f=>f σ|none=>[]
structure NS where
 slot:Nat
 ty:(Nat→OI)→Ty
 src:Option Nat
def NS.at(n:NS)(σ:Nat→OI):Nd:=⟨n.slot,n.ty σ,n.src⟩
def RW(G:mX)(ts:List TS)(n:NS):Prop:=
 match n.src with
 |some j=> ∀σ,(ts[j]?).map (fun p=>p.at σ)=some (n.ty σ)
 |none=> ∀σ,d9 G n.slot=some (n.ty σ)
def z1(G:mX)(ts:List TS):List NS→Prop
 |[]=>True
 |n::l=>RW G ts n∧z1 G ts l
theorem z1.mem{ts:List TS}: ∀{l:List NS},z1 G ts l→ ∀n∈l,RW G ts n
 |_::_,⟨h,_⟩,_,.head _=>h
 |_::_,⟨_,h⟩,_,.tail _ hm=>z1.mem h _ hm
def Dh(l:List NS)(σ:Nat→OI):mX:=kN (l.map (·.at σ))
def Sd(ts:List TS)(σ:Nat→OI):List Ty:=ts.map fun p=>p.at σ
def RI(L:List Oper)(es:List Bool)(i:Nat)(p:TS):Bool:=p.1.all fun k=>(es[k]?).getD false&&(Nat.beq k i||pE L L.length i k)
def Qf(L:List Oper)(es:List Bool)(i lo hi:Nat):Bool:=
 Nat.ble lo (gE es es.length)&&(List.range es.length).all fun k=> !((es[k]?).getD false)||((Nat.ble lo (gE es k)||pE L L.length i k)&&(Nat.blt (gE es k) hi||pE L L.length k i))
def DS(E:En)(G:mX)(L:List Oper)(ts:List TS)(Ss:List ((Nat→OI)→List OE))(es0:List Bool):Nat→Nat→List Oper→List Bool→Prop
 |_,_,[],_=>True
 |i,c,o::rest,false::es=>(∃(needs:List NS) (t:TS) (lo hi:Nat),ts[i]? =some t∧z1 G ts needs∧(needs.all fun n=>rr L o i (n.at fun _=>u7))=true∧gm i o=true∧RI L es0 i t=true∧Qf L es0 i lo hi=true∧o.dst.isSome=true∧
   ∀c σ,lo≤c→c≤hi→cM E (KW Ss c σ) L.toArray (Dh needs σ) o (t.at σ))∧DS E G L ts Ss es0 (i+1) c rest es
 |i,c,o::rest,true::es=>(∃(needs:List NS) (t:TS),ts[i]? =some t∧z1 G ts needs∧(needs.all fun n=>rr L o i (n.at fun _=>u7))=true∧gm i o=true∧RI L es0 i t=true∧
   ∀σ,uK E L.toArray (KW Ss c σ) (Dh needs σ) o (fun x=>KW Ss (c+1) (RY σ i x)) (fun x=>t.at (RY σ i x)))∧DS E G L ts Ss es0 (i+1) (c+1) rest es
 |_,_,_::_,[]=>False
variable{Ss:List ((Nat→OI)→List OE)}
theorem DS.get{ts:List TS}{es0:List Bool}: ∀(r:List Oper) (es:List Bool) (k c:Nat),DS E G L ts Ss es0 k c r es→ ∀(j:Nat) (o:Oper),r[j]? =some o→
    ∃e,es[j]? =some e∧ ∃(needs:List NS) (t:TS),ts[k+j]? =some t∧z1 G ts needs∧(needs.all fun n=>rr L o (k+j) (n.at fun _=>u7))=true∧gm (k+j) o=true∧RI L es0 (k+j) t=true∧
      (match e with
       |false=>o.dst.isSome=true∧ ∃lo hi,Qf L es0 (k+j) lo hi=true∧ ∀c σ,lo≤c→c≤hi→cM E (KW Ss c σ) L.toArray (Dh needs σ) o (t.at σ)
       |true=> ∀σ,uK E L.toArray (KW Ss (c+gE es j) σ) (Dh needs σ) o (fun x=>KW Ss (c+gE es j+1) (RY σ (k+j) x)) (fun x=>t.at (RY σ (k+j) x))):=by
  intro r
  induction r with
  |nil=>intro es k c _ j o h;simp at h
  |cons p r ih=>
    intro es k c h j o ho
    cases es with
    |nil=>exact h.elim
    |cons e es=>
      cases e with
      |false=>
        obtain⟨⟨needs,t,lo,hi,g1,g2,g3,g4,g5,g6,g7,g8⟩,h2⟩:=h
        cases j with
        |zero=>
          simp at ho;subst ho
          exact⟨false,rfl,needs,t,g1,g2,g3,g4,g5,g7,lo,hi,g6,g8⟩
        |succ j=>
          obtain⟨e',g1,g2⟩:=ih es (k+1) _ h2 j o (by simpa using ho)
          refine⟨e',by simpa using g1,?_⟩
          rw [show k+1+j=k+(j+1)from by omega]at g2
          have e1:c+gE (false::es) (j+1)=c+gE es j:=by simp [gE]
          rw [e1];exact g2
      |true=>
        obtain⟨h1,h2⟩:=h
        cases j with
        |zero=>
          simp at ho;subst ho
          exact⟨true,rfl,h1⟩
        |succ j=>
          obtain⟨e',g1,g2⟩:=ih es (k+1) _ h2 j o (by simpa using ho)
          refine⟨e',by simpa using g1,?_⟩
          rw [show k+1+j=k+(j+1)from by omega]at g2
          have e1:c+gE (true::es) (j+1)=c+1+gE es j:=by simp [gE];omega
          rw [e1];exact g2
structure PS(E:En)(G:mX)(l:List Oper)(ts:List TS)(Ss:List ((Nat→OI)→List OE))(es:List Bool)(done:Array Bool)(a:Act)(w:World)(S:SH)(σ:Nat→OI)(c:Nat):Prop where
 ext:kj E.B E.w0 E.S0 w S
 sat:lI w S
 own:fR E.base E.B w S (KW Ss c σ)
 size:a.tmps.size=E.N.n
 defers:a.defers=E.N.ds
 dsz:done.size=l.length
 down: ∀j o,l[j]? =some o→done.getD j false=true→ ∀e∈o.after,Region.binds .any e=true→done.getD e.on false=true
 old: ∀k t,d9 G k=some t→(∀j o,l[j]? =some o→done.getD j false=true→o.dst≠some k)→t.p S (a.tmps.getD k undef)
 new: ∀j o d p,l[j]? =some o→done.getD j false=true→o.dst=some d→ts[j]? =some p→(p.at σ).p S (a.tmps.getD d undef)
 deps: ∀j p,done.getD j false=true→ts[j]? =some p→ ∀k∈p.1,done.getD k false=true
 chain: ∀k,es[k]? =some true→(done.getD k false=true↔gE es k<c)
section
variable{ts:List TS}
theorem PS.need{σ:Nat→OI}{c:Nat}(h:PS E G L ts Ss es done a w S σ c)(hi:L[i]? =some o)(hun:done.getD i true=false)(hwait: ∀e∈o.after,Region.binds .any e=true→done.getD e.on false=true){needs:List NS}(h1:z1 G ts needs)(h2:(needs.all fun n=>rr L o i (n.at fun _=>u7))=true):cT E.N S a (Dh needs σ):=by
 have hlt:i<done.size:=by rw [h.dsz];exact(kF.1 hi).1
 have hun' :done.getD i false=false:=by
  simp [hlt]at hun ⊢;exact hun
 refine⟨h.size,h.defers,?_⟩
 have key: ∀n∈needs,(n.ty σ).p S (a.tmps.getD n.slot undef):=by
  intro n hn
  have hs:=pq.1 h2 n hn
  have ho:=h1.mem n hn
  unfold rr NS.at at hs
  unfold RW at ho
  cases hsrc:n.src with
  |some j=>
   rw [hsrc]at hs ho
   simp only [gX]at hs
   obtain⟨hs1,hs2⟩:=hs
   cases hj:L[j]? with
   |none=>rw [hj]at hs1;cases hs1
   |some p=>
    rw [hj]at hs1
    cases hd:p.dst with
    |none=>simp only [hd]at hs1;cases hs1
    |some d=>
     simp only [hd]at hs1
     have hd' :=q7 hs1
     subst hd'
     have hdone:done.getD j false=true:=by
      unfold CV at hs2
      obtain⟨e,he0,hb⟩:=CP.1 hs2
      have he:e∈o.after:=by simpa using he0
      simp only [gX]at hb
      have:=hwait e he hb.2
      rwa [q7 hb.1]at this
     have hm:=ho σ
     cases hf:ts[j]? with
     |none=>rw [hf]at hm;simp at hm
     |some f=>
      rw [hf]at hm
      have e:f.at σ=n.ty σ:=by simpa using hm
      rw [←e]
      exact h.new j p n.slot f hj hdone hd hf
  |none=>
   rw [hsrc]at hs ho
   refine h.old _ _ (ho σ) fun j p hj hdone hd=>?_
   have:=pq.1 hs p (qM hj)
   simp only [hd,Nat.beq_refl,uY,vj]at this
   unfold CV at this
   obtain⟨e,he0,hb⟩:=CP.1 this
   have he:e∈p.after:=by simpa using he0
   simp only [gX]at hb
   have h3:=h.down j p hj hdone e he hb.2
   rw [q7 hb.1]at h3
   rw [h3]at hun'
   cases hun'
 clear h1 h2
 intro k t hk
 unfold Dh at hk
 induction needs with
 |nil=>simp [kN,d9]at hk
 |cons n needs ih=>
  simp only [CO]at hk
  unfold kN d9 at hk
  by_cases hb:Nat.beq n.slot k=true
  ·have hb' :Nat.beq (n.at σ).slot k=true:=hb
   rw [hb']at hk
   have:=q7 hb
   subst this
   have h9:some (n.at σ).ty=some t:=by simpa using hk
   have e:n.ty σ=t:=qL h9
   rw [←e]
   exact key n (nf ..)
  ·rw [Ac]at hb
   have hb' :Nat.beq (n.at σ).slot k=false:=hb
   rw [hb']at hk
   exact ih (fun m hm=>key m (oO _ hm)) hk
theorem PS.step{σ σ' :Nat→OI}{c c' :Nat}(h:PS E G L ts Ss es done a w S σ c){p0:TS}{v:Value}{C:Nat→Prop}(hi:L[i]? =some o)(hdN: ∀d,o.dst=some d→d<E.N.n)(hs2: ∀d,o.dst=some d→ ∀j p,L[j]? =some p→done.getD j false=true→p.dst=some d→i=j)(hwait: ∀e∈o.after,Region.binds .any e=true→done.getD e.on false=true)(ht:ts[i]? =some p0)(hun:done.getD i true=false)(hdep: ∀k∈p0.1,k=i∨done.getD k false=true)(hext:kj C w S w' S')(hC: ∀b,C b→E.base≤b∨E.B b)(hsat:lI w' S')(hown:fR E.base E.B w' S' (KW Ss c' σ'))(hσ: ∀k,k≠i→σ' k=σ k)(hv:(p0.at σ').p S' v)(hch: ∀k,es[k]? =some true→((done.setIfInBounds i true).getD k false=true↔gE es k<c')):
  PS E G L ts Ss es (done.setIfInBounds i true) (a.put o.dst v) w' S' σ' c' :=by
 have hlt:i<done.size:=by rw [h.dsz];exact(kF.1 hi).1
 have hset: ∀j,(done.setIfInBounds i true).getD j false=true→j=i∨done.getD j false=true:=fun j hj=>by
  by_cases hij:i=j
  ·exact .inl hij.symm
  ·rw [zC false hij]at hj;exact .inr hj
 have hseti:(done.setIfInBounds i true).getD i false=true:=by simp [hlt]
 have hun' :done.getD i false=false:=by simp [hlt]at hun ⊢;exact hun
 have hput: ∀k,(∀d,o.dst=some d→d≠k)→(a.put o.dst v).tmps.getD k undef=a.tmps.getD k undef:=fun k hk=>by
  cases hd:o.dst with
  |none=>rfl
  |some d=>
   have hda:d<a.tmps.size:=by rw [h.size];exact hdN d hd
   rw [wp hda,aW (hk d hd)]
 refine⟨h.ext.step hext hC,hsat,hown,?_,?_,by simp [h.dsz],fun j p hj hdone e he hb=>?_,fun k u hk hno=>?_,fun j p d' u hj hdone hd' hu=>?_,fun j u hj hu k hk=>?_,hch⟩
 ·cases o.dst with
  |none=>exact h.size
  |some d=>simp [Act.put,h.size]
 ·cases o.dst with
  |none=>exact h.defers
  |some d=>exact h.defers
 ·rcases hset j hdone with rfl|hj'
  ·rw [hi]at hj
   have:o=p:=by simpa using hj
   subst this
   exact vh (hwait e he hb)
  ·exact vh (h.down j p hj hj' e he hb)
 ·rw [hput k fun d hd e=>hno i o hi hseti (by rw [hd,e])]
  exact u.mono hext.keep (h.old k u hk fun j p hj hdone=>hno j p hj (vh hdone))
 ·by_cases hij:j=i
  ·subst hij
   rw [hi]at hj
   have:o=p:=by simpa using hj
   subst this
   have hda:d' <a.tmps.size:=by rw [h.size];exact hdN d' hd'
   rw [hd',wp hda,bq rfl]
   rw [ht]at hu
   have:p0=u:=by simpa using hu
   subst this
   exact hv
  ·have hj' :=(hset j hdone).resolve_left hij
   rw [hput d' fun d hd e=>by subst e;exact hij (hs2 d hd j p hj hj' hd').symm]
   have e1:u.at σ' =u.at σ:=congrArg u.2 (List.map_congr_left fun k hk=>hσ k fun e=>by
     subst e
     rw [h.deps j u hj' hu k hk]at hun';cases hun')
   rw [e1]
   exact Ty.mono _ hext.keep (h.new j p d' u hj hj' hd' hu)
 ·rcases hset j hj with rfl|hj'
  ·rw [ht]at hu
   have:p0=u:=by simpa using hu
   subst this
   rcases hdep k hk with rfl|h'
   ·exact hseti
   ·exact vh h'
  ·exact vh (h.deps j u hj' hu k hk)
end
theorem Fg{l t:List Oper}{ts:List TS}(hsl:y7 E.N.n [] l=true)(hlen:ts.length=l.length)(hesl:es.length=l.length)(hd:DS E G (l++t) ts Ss es 0 0 l es)(hch:H6 (l++t) es=true)(ht:AY (l++t) l.length t.length=true)(hQ: ∀a w S σ,St E (KW Ss (gE es es.length) σ) (J1 l (Sd ts σ) G) a w S→wpListIn (fw E.r) 0 E.P (l++t).toArray Q t a w):
  ∀(fuel:Nat) (done:Array Bool) (a:Act) (w:World) (S:SH) (σ:Nat→OI) (c:Nat),nk done=fuel→(∀j,l.length≤j→done.getD j false=false)→c≤gE es es.length→PS E G (l++t) ts Ss es done a w S σ c→wpAnyIn (fw E.r) 0 E.P .any (l++t).toArray Q fuel done a w:=by
 have hL1: ∀i o,i<l.length→(l++t)[i]? =some o→l[i]? =some o:=fun i o hi h=>by rwa [Af hi]at h
 have hL2: ∀i o,l[i]? =some o→(l++t)[i]? =some o:=fun i o h=>by rw [Af (kF.1 h).1];exact h
 have htail: ∀m o,l.length≤m→(l++t)[m]? =some o→xE (l++t) m=true∧gm m o=true:=fun m o hm ho=>by
  have hml:m<(l++t).length:=(kF.1 ho).1
  rw [lM]at hml
  unfold AY at ht
  have:=pq.1 ht (m-l.length) (by simp;omega)
  rw [show l.length+(m-l.length)=m from by omega,ho]at this
  simp only [gX]at this
  exact⟨this.1,this.2.1⟩
 have hget:=fun i o (hi:l[i]? =some o)=>DS.get l es 0 0 hd i o hi
 have hedge: ∀i o,(l++t)[i]? =some o→gm i o=true:=fun i o hi=>by
  rcases oZ i l.length with h|h
  ·obtain⟨_,_,_,_,_,_,_,h,_⟩:=hget i o (hL1 i o h hi)
   simpa using h
  ·exact(htail i o h hi).2
 obtain⟨hs1,hs2⟩:=Fu l [] hsl
 have fin: ∀fuel done a w S σ c,nk done=fuel→(∀j,l.length≤j→done.getD j false=false)→c≤gE es es.length→PS E G (l++t) ts Ss es done a w S σ c→(∀i,i<l.length→done.getD i false=true)→wpAnyIn (fw E.r) 0 E.P .any (l++t).toArray Q fuel done a w:=by
  intro fuel done a w S σ c hu hfree hcle h hall
  have hcc:c=gE es es.length:=by
   rcases oZ c (gE es es.length)with hlt|hge
   ·obtain⟨i,h1,h2,h3⟩:=uH hlt
    have:=(h.chain i h2).1 (hall i (by omega))
    omega
   ·omega
  subst hcc
  refine AS (n:=l.length) (fun m o hm ho=>(htail m o hm ho).1) hedge t l.length done fuel a w (eE _) (by simp) h.dsz (fun j hj=>⟨fun hjd=>?_,fun hlt=>hall j hlt⟩) hu
   (hQ a w S σ ⟨h.ext,h.sat,h.own,h.size,h.defers,fun j u hj=>?_⟩)
  ·rcases oZ j l.length with h' |h'
   ·exact h'
   ·rw [hfree j h']at hjd;cases hjd
  ·rcases Ka l (Sd ts σ) j u (by unfold Sd;rw [List.length_map];exact hlen) hj with⟨i,o,h1,h2,h3⟩|⟨h1,h2⟩
   ·unfold Sd at h3
    rw [List.getElem?_map]at h3
    cases hf:ts[i]? with
    |none=>rw [hf]at h3;simp at h3
    |some f=>
     rw [hf]at h3
     have e:f.at σ=u:=by simpa using h3
     rw [←e]
     exact h.new i o j f (hL2 i o h1) (hall i (kF.1 h1).1) h2 hf
   ·refine h.old j u h1 fun i o ho hdn=>?_
    rcases oZ i l.length with h' |h'
    ·exact h2 o (qM (hL1 i o h' ho))
    ·rw [hfree i h']at hdn;cases hdn
 have lower: ∀done a w S σ c i,(∀j,l.length≤j→done.getD j false=false)→PS E G (l++t) ts Ss es done a w S σ c→i∈Region.ready .any (l++t).toArray done→l.length≤i→ ∀j,j<l.length→done.getD j false=true:=by
  intro done a w S σ c i hfree h hi hge j hj
  obtain⟨hun,p,hp,hwait⟩:=uN.1 hi
  have hp' :(l++t)[i]? =some p:=by simpa using hp
  have hcov:=(htail i p hge hp').1
  unfold xE at hcov
  have hre:=pq.1 hcov j (by simp;omega)
  exact kK h.down _ i j (fun q hq e he hb=>by
   have:q=p:=by rw [hp']at hq;simpa using hq.symm
   subst this
   exact hwait e he hb) hre
 have hchain: ∀i j,j<i→es[i]? =some true→es[j]? =some true→pE (l++t) (l++t).length i j=true:=fun i j hij h1 h2=>by
  unfold H6 at hch
  have hil:i<es.length:=(kF.1 h1).1
  have:=pq.1 (pq.1 hch i (by simpa using hil)) j (by simpa using hij)
  rw [h1,h2]at this
  simpa using this
 intro fuel
 induction fuel with
 |zero=>
  intro done a w S σ c hu hfree hcle h
  exact fin 0 done a w S σ c hu hfree hcle h fun i hi=>vo hu (by rw [h.dsz,lM];omega)
 |succ fuel ih=>
  intro done a w S σ c hu hfree hcle h
  by_cases hall: ∀i,i<l.length→done.getD i false=true
  ·exact fin _ done a w S σ c hu hfree hcle h hall
  have hready0: ∀m i,i<m→i<l.length→Region.ready .any (l++t).toArray done=[]→done.getD i false=true:=by
   intro m
   induction m with
   |zero=>intro i h;omega
   |succ m ihm=>
    intro i him hil hr
    have his:i<done.size:=by rw [h.dsz,lM];omega
    by_cases hdn:done.getD i true=true
    ·rw [←qk his];exact hdn
    ·exfalso
     obtain⟨o,ho⟩: ∃o,(l++t)[i]? =some o:=⟨l[i],hL2 i _ (kW hil)⟩
     have hmem:i∈Region.ready .any (l++t).toArray done:=by
      rw [uN]
      refine⟨by simpa using hdn,o,by simpa using ho,fun e he hb=>?_⟩
      have:=hedge i o ho
      unfold gm at this
      have:=pq.1 this e (by simpa using he)
      simp only [hb,uY,vj,tZ]at this
      exact ihm e.on (by omega) (by omega) hr
     rw [hr]at hmem;cases hmem
  refine⟨fun hr=>absurd (fun i hi=>hready0 (i+1) i (by omega) hi hr) hall,fun i hi=>?_⟩
  have hil:i<l.length:=by
   rcases oZ i l.length with h' |h'
   ·exact h'
   ·exact absurd (lower done a w S σ c i hfree h hi h') hall
  obtain⟨hun,o,ho,hwait⟩:=uN.1 hi
  have ho' :(l++t)[i]? =some o:=by simpa using ho
  have hol:=hL1 i o hil ho'
  obtain⟨e,he,needs,u,h1,h2,h3,_,h4,h5⟩:=hget i o hol
  rw [va]at h1 h3 h4
  have hF:=h.need ho' hun hwait h2 h3
  have his:i<done.size:=by rw [h.dsz,lM];omega
  have hun' :done.getD i false=false:=by rw [←qk his];exact hun
  have hu' :nk (done.setIfInBounds i true)=fuel:=by have:=rQ hun;omega
  have huq: ∀d,o.dst=some d→ ∀j p,(l++t)[j]? =some p→done.getD j false=true→p.dst=some d→i=j:=fun d hdd j p hj hjd hpd=>by
   rcases oZ j l.length with h' |h'
   ·exact hs2 i j o p d hol (hL1 j p h' hj) hdd hpd
   ·rw [hfree j h']at hjd;cases hjd
  have hfree' : ∀j,l.length≤j→(done.setIfInBounds i true).getD j false=false:=fun j hj=>by
   rw [zC false (by omega)];exact hfree j hj
  have hbl:E.base≤w.heap.size:=h.ext.size
  have hwaits: ∀q,(l++t)[i]? =some q→ ∀e∈q.after,Region.binds .any e=true→done.getD e.on false=true:=fun q hq e he hb=>by
   have:q=o:=by rw [ho']at hq;simpa using hq.symm
   subst this
   exact hwait e he hb
  have hdpp: ∀k∈u.1,k=i∨done.getD k false=true:=fun k hk=>by
   have:=pq.1 h4 k hk
   simp only [gX,zF]at this
   rcases this.2 with hb|hb
   ·exact .inl (q7 hb)
   ·exact .inr (kK h.down _ i k hwaits hb)
  have hdNN: ∀d,o.dst=some d→d<E.N.n:=fun d hd=>(hs1 o (qM hol) d hd).1
  unfold wpOpIn
  rw [ho]
  show if _ then _ else _
  cases e with
  |false=>
   simp only at h5
   obtain⟨hdS,lo,hi',hwin,h5⟩:=h5
   rw [va]at hwin
   obtain⟨d,hdd⟩:=Option.isSome_iff_exists.1 hdS
   have hdN:=(hs1 o (qM hol) d hdd).1
   unfold Qf at hwin
   rw [gX]at hwin
   obtain⟨hw1,hw2⟩:=hwin
   have hw1' :=rm hw1
   have hwk: ∀k,es[k]? =some true→(Nat.ble lo (gE es k)=true∨pE (l++t) (l++t).length i k=true)∧(Nat.blt (gE es k) hi' =true∨pE (l++t) (l++t).length k i=true):=fun k hk=>by
    have hkl:k<es.length:=(kF.1 hk).1
    have:=pq.1 hw2 k (by simpa using hkl)
    rw [hk]at this
    simpa using this
   have hlo:lo≤c:=by
    rcases oZ c lo with hlt|hge
    ·exfalso
     obtain⟨k,hk1,hk2,hk3⟩:=uH (es:=es) (c:=c) (k:=es.length) (by omega)
     rcases(hwk k hk2).1 with hb|hb
     ·have:=rm hb;omega
     ·have:=(h.chain k hk2).1 (kK h.down _ i k hwaits hb)
      omega
    ·exact hge
   have hhi:c≤hi' :=by
    rcases oZ hi' c with hlt|hge
    ·exfalso
     obtain⟨k,hk1,hk2,hk3⟩:=uH (es:=es) (c:=hi') (k:=es.length) (by omega)
     rcases(hwk k hk2).2 with hb|hb
     ·simp only [tZ]at hb;omega
     ·have hkd:done.getD k false=true:=(h.chain k hk2).2 (by omega)
      have:=kK h.down _ k i (fun q hq e he hb=>h.down k q hq hkd e he hb) hb
      rw [this]at hun';cases hun'
    ·exact hge
   have h6:=h5 c σ hlo hhi a w S h.sat h.own hF
   have hch' : ∀k,es[k]? =some true→((done.setIfInBounds i true).getD k false=true↔gE es k<c):=fun k hk=>by
    have hne:i≠k:=fun e=>by subst e;rw [he]at hk;cases hk
    rw [zC false hne];exact h.chain k hk
   by_cases hw:Region.wanted o (yielded (l++t).toArray a.tmps)=true
   ·rw [bq hw]at h6 ⊢
    refine nX (fun a' w' ⟨v,S',ha,hx,hs,hv⟩=>?_) h6
    subst ha
    exact ih _ _ _ S' _ c hu' hfree' hcle (h.step ho' hdNN huq hwait h1 hun hdpp hx (fun _ hb=>hb.elim) hs (h.own.ext0 hx) (fun _ _=>rfl) hv hch')
   ·rw [aW hw]at h6 ⊢
    exact⟨fun _ _=>trivial,ih _ _ _ S _ c hu' hfree' hcle (h.step ho' hdNN huq hwait h1 hun hdpp (kU tN _ _) (fun _ hb=>hb.elim) h.sat h.own (fun _ _=>rfl) h6 hch')⟩
  |true=>
   simp only [va]at h5
   -- it is the next one of the chain
   have hca:gE es i=c:=by
    have hn: ¬gE es i<c:=fun hlt=>by rw [(h.chain i he).2 hlt]at hun';cases hun'
    rcases oZ c (gE es i)with hlt|hge
    ·exfalso
     obtain⟨k,hk1,hk2,hk3⟩:=uH hlt
     have hkd:done.getD k false=true:=kK h.down _ i k hwaits (hchain i k hk1 he hk2)
     have:=(h.chain k hk2).1 hkd
     omega
    ·omega
   subst hca
   have h6:=h5 σ a w S h.sat h.own hF hbl
   have hch' : ∀k,es[k]? =some true→((done.setIfInBounds i true).getD k false=true↔gE es k<gE es i+1):=fun k hk=>by
    by_cases hik:i=k
    ·subst hik
     constructor
     ·intro _;omega
     ·intro _;simp [his]
    ·rw [zC false hik,h.chain k hk]
     constructor
     ·intro h;omega
     ·intro hlt
      rcases oZ i k with hlk|hlk
      ·have:=BW hlk he;omega
      ·exact BW (by omega) hk
   have hcle' :gE es i+1≤gE es es.length:=BW (by omega) he
   by_cases hw:Region.wanted o (yielded (l++t).toArray a.tmps)=true
   ·rw [bq hw]at h6 ⊢
    refine nX (fun a' w' ⟨v,S',x,ha,hx,hs,hown,hv⟩=>?_) h6
    subst ha
    exact ih _ _ _ S' _ _ hu' hfree' hcle' (h.step ho' hdNN huq hwait h1 hun hdpp hx (fun b ⟨f,hf,hb⟩=>(fR.mem h.own f hf).2 b hb) hs hown (fun k hk=>Lf σ x hk) hv hch')
   ·rw [aW hw]at h6 ⊢
    obtain⟨x,hown,hv⟩:=h6
    exact⟨fun _ _=>trivial,ih _ _ _ S _ _ hu' hfree' hcle' (h.step ho' hdNN huq hwait h1 hun hdpp (kU tN _ _) (fun _ hb=>hb.elim) h.sat hown (fun k hk=>Lf σ x hk) hv hch')⟩
theorem lJ{id:Nat}(m:Nat)(ts:List TS)(es:List Bool)(Ss:List ((Nat→OI)→List OE))(hO:Ss[0]? =some fun _=>O)(hm:E.P.follows .mixedOrders=true)(hsl:y7 E.N.n [] (L.take m)=true)(hlen:ts.length=(L.take m).length)(hesl:es.length=(L.take m).length)(hch:H6 L es=true)(ht:AY L (L.take m).length (L.drop m).length=true)(hd:DS E G L ts Ss es 0 0 (L.take m) es)(k: ∀σ:Nat→OI,RG E L.toArray Q (L.drop m) (KW Ss (gE es es.length) σ) (J1 (L.take m) (Sd ts σ) G)):CG E Q (.region id L.toArray true) O G:=fun a w S st=>by
 have hL:L=L.take m++L.drop m:=(tt m L).symm
 generalize L.take m=l at hL hsl hlen hesl ht hd k
 generalize L.drop m=t at hL ht k
 subst hL
 refine wpIn_region_any hm ?_
 obtain⟨he,hs⟩:=yQ (w:=w) st.sat
 have hO0:KW Ss 0 (fun _=>u7)=O:=by unfold KW;rw [hO]
 refine Fg hsl hlen hesl hd hch ht (fun a w S σ st=>k σ a w S st) _ _ _ _ S (fun _=>u7) 0 ?_ (fun j _=>?_) (nU _)
  ⟨st.ext.step0 he,hs,by rw [hO0];exact st.own.ext0 he,st.facts.size,st.facts.defers,by simp,fun j o hj hdone=>?_,fun k t hk _=>st.facts.at_ k t hk,fun j o d t hj hdone=>?_,fun j p hdone=>?_,fun k _=>⟨fun hdone=>?_,fun h=>(by omega)⟩⟩
 ·unfold nk;rw [Array.toList_replicate,List.countP_replicate];simp
 ·simp [Cl];split<;>rfl
 ·simp [Cl]at hdone
  split at hdone<;>simp at hdone
 ·simp [Cl]at hdone
  split at hdone<;>simp at hdone
 ·simp [Cl]at hdone
  split at hdone<;>simp at hdone
 ·simp [Cl]at hdone
  split at hdone<;>simp at hdone
theorem u3{p:Nat→(Nat→OI)→Prop}{lo:Nat}(h: ∀σ,p lo σ): ∀c σ,lo≤c→c≤lo→p c σ:=fun c σ h1 h2=>by
 have:c=lo:=by omega
 subst this;exact h σ
theorem Jy{p:Nat→(Nat→OI)→Prop}{lo hi:Nat}(h: ∀σ,p lo σ)(k: ∀c σ,lo+1≤c→c≤hi→p c σ): ∀c σ,lo≤c→c≤hi→p c σ:=fun c σ h1 h2=>by
 by_cases e:c=lo
 ·subst e;exact h σ
 ·exact k c σ (by omega) h2
theorem BN{op:Op}{ty:TypeId}(hnd: ∀c,op≠ .defer c)(h: ∀a w S,lI w S→fR E.base E.B w S O→cT E.N S a G→E.base≤w.heap.size→ ∃w' S' x,(execOp a.eval ⟨none,op,ty,pos,after,g⟩).run E.P w= .ok .skip w' ∧kj (EY O) w S w' S' ∧lI w' S' ∧fR E.base E.B w' S' (post x)):
  EffOK E O G ⟨none,op,ty,pos,after,g⟩ post (fun _=>Fn):=fun a w S hs ho hf hb=>by
 obtain⟨w',S',x,h1,h2,h3,h4⟩:=h a w S hs ho hf hb
 refine⟨hnd,?_⟩
 rw [h1]
 exact⟨undef,S',x,rfl,h2,h3,h4,trivial⟩
end Go.Proofs.YtdohlidddcgfjaaGreat

