/- di of this claim: W14, W16, W17, W18, W19, W20, W22, W23, W24, W25, W26, W28, W30, W31. -/
import Derived.Test.YtfhhakidodmdfaaGreatDoorJcV1
import Derived.RangeFuncRecord
import Derived.RangeFuncLeaves
import Derived.Laws.StructEq
import Derived.Lib.ConvBytes
import Derived.Lib.AppendZeros
import Derived.Laws.MakeOwn
import Derived.MapKept
import Derived.Scope
set_option linter.all false
namespace Go.Proofs.YtfhhakidodmdfaaGreatDoor
open Go

variable{S:SH}{a:Act}{α:Type}{b:Nat}{e:TypeId}{β:Type}{k:IntKind}{q:Rp β}{x:Operand}{y:α}
theorem fF{p:Rp α}:j5 (dI p q) 0 p (fun x y=>(y,x.2)):=fun S cs x ds y h k=>by
 obtain⟨a,b,e,h1,h2⟩:=h
 have hl:=p.len h1
 refine⟨ds,b,?_,k,h2⟩
 rw [e,←hl];simp
variable{off:Nat}{γ:Type}{s u:Rp γ}
theorem bv{p:Rp α}{off' :Nat}{u:β→γ→β}(h:j5 q off s u)(ho:off' =p.sz+off):j5 (dI p q) off' s (fun x y=>(x.1,u x.2 y)):=fun S cs x ds y hx hy=>by
 obtain⟨a,b,e,h1,h2⟩:=hx
 have hl:=p.len h1
 refine⟨a,b.take off++ds++b.drop (off+s.sz),?_,h1,h S b x.2 ds y h2 hy⟩
 rw [e,ho,←hl,List.take_length_add_append,show a.length+off+s.sz=a.length+(off+s.sz)from by omega,List.drop_length_add_append]
 simp
variable{f:FuncId}
theorem dn{p:Rp α}{q:Rp γ}{u:α→γ→α}{f:β→α}{set:β→γ→β}(h:j5 p off q u)(hf: ∀x y,f (set x y)=u (f x) y):j5 (sa p f) off q set:=fun S cs x ds y hx hy=>by
 show p.rc S _ (f (set x y))
 rw [hf]
 exact h S cs (f x) ds y hx hy
def ml(P:Program)(T:TypeId):Option (List (Nat×Nat)):=
 match P.underlying T with
 |some (.struct fs)=>fs.toList.mapM fun f=>(P.info? f.type).map fun q=>(f.offset,q.size)
 |_=>none
variable{P:Program}{w:World}
theorem EC{P:Program}: ∀(fs:List Field) (ps:List (Nat×Nat)) (w:World),fs.mapM (fun f=>(P.info? f.type).map fun q=>(f.offset,q.size))=some ps→
  (fs.mapM (fun f=>do pure (f.offset,←sizeOf f.type):Field→Sem (Nat×Nat))).run P w= .ok ps w
 |[],ps,w,h=>by
  simp at h;subst h
  simp
 |f::fs,ps,w,h=>by
  simp only [List.mapM_cons]at h ⊢
  cases hq:P.info? f.type with
  |none=>simp [hq]at h
  |some q=>
   cases hr:fs.mapM (fun f=>(P.info? f.type).map fun q=>(f.offset,q.size))with
   |none=>simp [hq,hr]at h
   |some qs=>
    simp [hq,hr]at h
    subst h
    have ih:=EC fs qs w hr
    simp [sizeOf,typeInfo,hq]at ih ⊢
    simp [ih]
variable{E:En}{G:lW}{O:List OE}{T:TypeId}{after:Array Edge}{agg:Bool}{bytes:Nat}{c:Code}{dst:Option Tmp}{g:Option (Nat×Bool)}{i:Nat}{l:Option Nat}{o:Oper}{pos:String}{r:Rp α}{rest:List Oper}{sz:Nat}{z:List Value}
section
variable{ty:TypeId}
def BP(E:En)(G:lW){α:Type}(r:Rp α)(ps:List (Nat×Nat)):α→List (Nat×Operand)→α→Prop
 |x,[],y=>x=y
 |x,(i,o)::rest,y=> ∃(β:Type) (q:Rp β) (set:α→β→α) (off:Nat) (v:β),ps[i]? =some (off,q.sz)∧j5 r off q set∧Nat.ble (off+q.sz) r.sz=true∧aO E.N G o (tD q v)∧BP E G r ps (set x v) rest y
theorem Fh{α:Type}{r:Rp α}{ps:List (Nat×Nat)}{S:SH}{a:Act}(hF:di E.N S a G): ∀(parts:List (Nat×Operand)) (x y:α) (cs:List Value),BP E G r ps x parts y→r.rc S cs x→
  ∃ds,r.rc S ds y∧Instr.fill (ps.toArray[·]?) cs.toArray (parts.map fun p=>(p.1,a.eval p.2))=some ds.toArray
 |[],x,y,cs,h,hx=>by
  have e:x=y:=h
  subst e
  exact⟨cs,hx,rfl⟩
 |(i,o)::rest,x,y,cs,⟨β,q,set,off,v,h1,h2,h3,h4,h5⟩,hx=>by
  obtain⟨c,hv,hc⟩:=h4 S a hF
  have hl:=q.len hc
  have hlr:=r.len hx
  have h3' :=oP h3
  have hcells:(a.eval o).cells=c.toArray:=by rw [hv];exact s9 hc
  obtain⟨ds,h6,h7⟩:=Fh hF rest _ y _ h5 (h2 S cs x c v hx hc)
  refine⟨ds,h6,?_⟩
  have hps:ps.toArray[i]? =some (off,q.sz):=by simpa using h1
  have hs:(a.eval o).cells.size=q.sz:=by rw [hcells];simpa using hl
  have h8:=wl (a.eval o) off (cs.take off) ((cs.drop off).take q.sz) (cs.drop (off+q.sz)) (by rw [hs];simp;omega) (by simp;omega)
  have e1:cs.take off++(cs.drop off).take q.sz++cs.drop (off+q.sz)=cs:=by
   rw [jO,←oO,ut,ut]
  rw [e1]at h8
  simp only [vm,Instr.fill,hps]
  rw [aX (by simp [hs,hlr];omega),h8,hcells]
  simpa using h7
theorem bB{x:α}{parts:List (Nat×Operand)}{ps:List (Nat×Nat)}(ti:TI E.P T sz bytes agg z)(hp:ml E.P T=some ps)(hz: ∀S,r.rc S z x)(hb:BP E G r ps x parts y)(ha:r.agg=true:=by rfl):
  bZ E O G ⟨dst,.build T parts.toArray,ty,pos,after,g⟩ (tD r y):=
 .of_pure fun a w S _ _ hF=>by
  obtain⟨zv,hzr,hzc⟩:=ti.zero w
  obtain⟨ds,h1,h2⟩:=Fh hF parts x y z hb (hz S)
  unfold ml at hp
  split at hp
  ·rename_i fs hu
   have hpl:=EC fs.toList ps w hp
   have hpl2:(fs.mapM (fun f=>do pure (f.offset,←sizeOf f.type):Field→Sem (Nat×Nat))).run E.P w= .ok ps.toArray w:=by
    have hfs:fs=fs.toList.toArray:=by simp
    generalize fs.toList=l at hfs hpl
    subst hfs
    rw [List.mapM_toArray,Sem.run_map,hpl]
    rfl
   refine⟨.agg ds.toArray,?_,ds,(sN ha ds).symm,h1⟩
   simp only [execOp,Instr.build,vf,hzr,xf,lF hu,hpl2,hzc]
   have hm:(parts.toArray.map fun(i,x)=>(i,a.eval x)).toList=parts.map fun p=>(p.1,a.eval p.2):=by simp
   rw [hm,h2]
   simp
  ·cases hp
end
variable{B:Nat→Prop}{N:Nat}{S0:SH}{U:TypeId}{fn:Func}{w0:World}
section
theorem eP{k:Nat}{x:α}(hr:fn.results= #[.cell k T])(ti:TI P T sz bytes agg z)(hsz:r.sz=sz)(hag:r.agg=agg)(hk:dm G k=some (bN r x)):
  AT ⟨P,⟨N,[]⟩,B,w0,S0,none⟩ (bodyPost P fn (Lk ⟨P,⟨N,[]⟩,B,w0,S0,none⟩ (tD r x))) .ret O G:=fun a w S st=>by
 obtain⟨b,off,c,U,fr,h1,h2,h3⟩:=st.facts.at_ k _ hk
 obtain⟨c',h4,h5⟩:=st.sat.part h2 (r.len h3)
 rw [←h5]at h3
 refine⟨st.facts.defers,r.val ((c'.toList.drop off).take r.sz),?_,_,S,rfl,st.ext,st.sat,_,rfl,h3⟩
 have hl:=kS ti h4 hsz hag h3
 have h1' :a.tmps[k]?.getD undef=Value.pointer (some ⟨b,off,none⟩):=by simpa [Jq] using h1
 simp [results,hr,h1',asAddr,hl]
end

def nM(L:List Oper):Nat→Nat→Nat→Bool
 |0,_,_=>false
 |n+1,i,j=>match L[i]? with
  |some o=>o.after.toList.any fun e=>Region.binds .any e&&(Nat.beq e.on j||nM L n e.on j)
  |none=>false
def wM(L:List Oper)(m:Nat):Bool:=(List.range m).all fun j=>nM L L.length m j
def zx(L:List Oper)(n k:Nat):Bool:=(List.range k).all fun m=>wM L (n+m)&&(match L[n+m]? with|some o=>fd (n+m) o&&o.guard.isNone|none=>false)
variable{L:List Oper}{done:Array Bool}{hi j:Int}{n:Nat}
theorem gF{L:List Oper}{done:Array Bool}(down: ∀j o,L[j]? =some o→done.getD j false=true→ ∀e∈o.after,Region.binds .any e=true→done.getD e.on false=true):
  ∀(n i j:Nat),(∀o,L[i]? =some o→ ∀e∈o.after,Region.binds .any e=true→done.getD e.on false=true)→nM L n i j=true→done.getD j false=true
 |0,_,_,_,h=>by cases h
 |n+1,i,j,hi,h=>by
  unfold nM at h
  cases ho:L[i]? with
  |none=>rw [ho]at h;cases h
  |some o=>
   rw [ho]at h
   obtain⟨e,he0,hb⟩:=uV.1 h
   have he:e∈o.after:=by simpa using he0
   rw [mz,qO]at hb
   have hd:=hi o ho e he hb.1
   rcases hb.2 with h1|h1
   ·rw [←oV h1];exact hd
   ·exact gF down n e.on j (fun p hp=>down e.on p hp hd) h1
variable{S' :SH}{d:Nat}{t:TypeId}{ts:List Ty}{w' :World}
theorem DJ.stepT{l:List Oper}(h:DJ E O G l ts done a w S){t:Ty}{v:Value}(hi:l[i]? =some o)(hd:o.dst=some d)(hdN:d<E.N.n)(hs2: ∀j p,l[j]? =some p→done.getD j false=true→p.dst=some d→i=j)(hwait: ∀e∈o.after,Region.binds .any e=true→done.getD e.on false=true)(ht:ts[i]? =some t)(hun:done.getD i true=false)(hext:gz p7 w S w' S')(hsat:jL w' S')(hv:t.p S' v):DJ E O G l ts (done.setIfInBounds i true) (a.put o.dst v) w' S' :=by
 have hda:d<a.tmps.size:=by rw [h.size];exact hdN
 have hlt:i<done.size:=by rw [h.dsz];exact(jP.1 hi).1
 have hset: ∀j,(done.setIfInBounds i true).getD j false=true→j=i∨done.getD j false=true:=fun j hj=>by
  by_cases hij:i=j
  ·exact .inl hij.symm
  ·rw [vk false hij]at hj;exact .inr hj
 have hseti:(done.setIfInBounds i true).getD i false=true:=by simp [hlt]
 have hun' :done.getD i false=false:=by simp [hlt]at hun ⊢;exact hun
 refine⟨h.ext.step0 hext,hsat,h.own.ext0 hext,?_,?_,by simp [h.dsz],fun j p hj hdone e he hb=>?_,fun k u hk hno=>?_,fun j p d' u hj hdone hd' hu=>?_⟩
 ·rw [hd];simp [Act.put,h.size]
 ·rw [hd];exact h.defers
 ·rcases hset j hdone with rfl|hj'
  ·rw [hi]at hj
   have:o=p:=by simpa using hj
   subst this
   exact vZ (hwait e he hb)
  ·exact vZ (h.down j p hj hj' e he hb)
 ·have hne:d≠k:=fun e=>hno i o hi hseti (by rw [hd,e])
  rw [hd,rD hda,aX hne]
  exact u.mono hext.keep (h.old k u hk fun j p hj hdone=>hno j p hj (vZ hdone))
 ·rw [hd,rD hda]
  rcases hset j hdone with rfl|hj'
  ·rw [hi]at hj
   have:o=p:=by simpa using hj
   subst this
   rw [hd]at hd'
   have:d=d' :=by simpa using hd'
   subst this
   rw [bk rfl]
   rw [ht]at hu
   have:t=u:=by simpa using hu
   subst this
   exact hv
  ·have hne:d≠d' :=fun e=>by
    subst e
    have:=hs2 j p hj hj' hd'
    subst this
    rw [hj']at hun';cases hun'
   rw [aX hne]
   exact u.mono hext.keep (h.new j p d' u hj hj' hd' hu)
theorem oF(h:i<done.size):done.getD i true=done.getD i false:=by simp [h]
theorem uy(h:lH done=0)(hi:i<done.size):done.getD i false=true:=by
 unfold lH at h
 rw [List.countP_eq_zero]at h
 have h2:done[i]∈done.toList:=by simp
 have:=h _ h2
 rw [←oF hi]
 simpa [hi] using this
variable{Q:Exit→Act→World→Prop}{xs:List α}
theorem z6{r:Option Nat}(hc: ∀m o,n≤m→L[m]? =some o→wM L m=true)(hedge: ∀m o,L[m]? =some o→fd m o=true):
  ∀(rest:List Oper) (m:Nat) (done:Array Bool) (fuel:Nat) (a:Act) (w:World),n≤m→L.drop m=rest→done.size=L.length→(∀j,j<L.length→(done.getD j false=true↔j<m))→lH done=fuel→
   wpListIn (fw r) 0 P L.toArray Q rest a w→wpAnyIn (fw r) 0 P .any L.toArray Q fuel done a w:=by
 intro rest
 induction rest with
 |nil=>
  intro m done fuel a w hnm hdrop hsz hdone hu h
  have hlen:L.length≤m:=HM.1 hdrop
  have hr:Region.ready .any L.toArray done=[]:=by
   cases hr:Region.ready .any L.toArray done with
   |nil=>rfl
   |cons i r=>
    have hm:i∈Region.ready .any L.toArray done:=by rw [hr];exact lb ..
    obtain⟨hun,o,ho,_⟩:=tw.1 hm
    have hi:i<L.length:=by simpa using (wc.1 ho).1
    have:=(hdone i hi).2 (by omega)
    rw [oF (by omega)]at hun
    rw [hun]at this;cases this
  cases fuel with
  |zero=>exact⟨hr,h⟩
  |succ f=>exact⟨fun _=>h,fun i hi=>by rw [hr]at hi;cases hi⟩
 |cons o rest ih=>
  intro m done fuel a w hnm hdrop hsz hdone hu h
  have hm:m<L.length:=by
   rcases nL m L.length with h' |h'
   ·exact h'
   ·rw [HM.2 h']at hdrop;cases hdrop
  have hLm:L[m]? =some o:=by
   have:=xr (xs:=L) (i:=m) (j:=0)
   rw [hdrop]at this
   simpa using this.symm
  have hmu:done.getD m true=false:=by
   have hnot: ¬(done.getD m false=true):=fun h2=>by have:=(hdone m hm).1 h2;omega
   rw [oF (by omega)]
   exact zW _▸hnot
  have honly: ∀i∈Region.ready .any L.toArray done,i=m:=by
   intro i hi
   obtain⟨hun,p,hp,hwait⟩:=tw.1 hi
   have hp' :L[i]? =some p:=by simpa using hp
   have hil:i<L.length:=(jP.1 hp').1
   have hid: ¬i<m:=fun hlt=>by
    have h2:=(hdone i hil).2 hlt
    rw [oF (by omega)]at hun
    rw [hun]at h2;cases h2
   rcases nL m i with hlt|hge
   ·exfalso
    have hcov:=hc i p (by omega) hp'
    unfold wM at hcov
    have hre:=ki.1 hcov m (by simpa using hlt)
    have:done.getD m false=true:=by
     refine gF (L:=L) (done:=done) (fun j q hj hjd e he hb=>?_) _ i m (fun q hq e he hb=>?_) hre
     ·have hjl:j<L.length:=(jP.1 hj).1
      have hjm:=(hdone j hjl).1 hjd
      have:=hedge j q hj
      unfold fd at this
      have:=ki.1 this e (by simpa using he)
      simp only [hb,nh,sy,vY]at this
      exact(hdone e.on (by omega)).2 (by omega)
     ·have:q=p:=by rw [hp']at hq;simpa using hq.symm
      subst this
      exact hwait e he hb
    have:=(hdone m hm).1 this
    omega
   ·omega
  have hready:m∈Region.ready .any L.toArray done:=by
   rw [tw]
   refine⟨hmu,o,by simpa using hLm,fun e he hb=>?_⟩
   have:=hedge m o hLm
   unfold fd at this
   have:=ki.1 this e (by simpa using he)
   simp only [hb,nh,sy,vY]at this
   exact(hdone e.on (by omega)).2 this
  cases fuel with
  |zero=>
   have:=uy hu (i:=m) (by omega)
   have:=(hdone m hm).1 this
   omega
  |succ fuel=>
   refine⟨fun hr=>(by rw [hr]at hready;cases hready),fun i hi=>?_⟩
   have:=honly i hi
   subst this
   have hnext:=fun a w=>ih (i+1) (done.setIfInBounds i true) fuel a w (by omega) (by rw [←oO,hdrop];rfl) (by simpa using hsz) (fun j hj=>by
    by_cases hij:i=j
    ·subst hij;have:i<done.size:=by omega
     simp [this]
    ·rw [vk false hij,hdone j hj];omega) (by have:=qU hmu;omega)
   unfold wpOpIn
   have hLm' :L.toArray[i]? =some o:=by simpa using hLm
   rw [hLm']
   show if _ then _ else _
   unfold wpListIn at h
   by_cases hw:Region.wanted o (yielded L.toArray a.tmps)=true
   ·rw [bk hw]at h ⊢;exact Oper.wpIn_mono (fun a w hk=>hnext a w hk) h
   ·rw [aX hw]at h ⊢;exact⟨h.1,hnext _ _ h.2⟩
theorem JE{l t:List Oper}(hsl:wm E.N.n [] l=true)(hlen:ts.length=l.length)(hd:DR E O G (l++t) ts 0 l)(ht:zx (l++t) l.length t.length=true)(hQ: ∀a w S,St E O (MO l ts G) a w S→wpListIn (fw E.r) 0 E.P (l++t).toArray Q t a w):
  ∀(fuel:Nat) (done:Array Bool) (a:Act) (w:World) (S:SH),lH done=fuel→(∀j,l.length≤j→done.getD j false=false)→DJ E O G (l++t) ts done a w S→wpAnyIn (fw E.r) 0 E.P .any (l++t).toArray Q fuel done a w:=by
 have hL1: ∀i o,i<l.length→(l++t)[i]? =some o→l[i]? =some o:=fun i o hi h=>by rwa [B0 hi]at h
 have hL2: ∀i o,l[i]? =some o→(l++t)[i]? =some o:=fun i o h=>by rw [B0 (jP.1 h).1];exact h
 have htail: ∀m o,l.length≤m→(l++t)[m]? =some o→wM (l++t) m=true∧fd m o=true:=fun m o hm ho=>by
  have hml:m<(l++t).length:=(jP.1 ho).1
  rw [jx]at hml
  unfold zx at ht
  have:=ki.1 ht (m-l.length) (by simp;omega)
  rw [show l.length+(m-l.length)=m from by omega,ho]at this
  simp only [mz]at this
  exact⟨this.1,this.2.1⟩
 have hedge: ∀i o,(l++t)[i]? =some o→fd i o=true:=fun i o hi=>by
  rcases nL i l.length with h|h
  ·obtain⟨_,_,_,_,_,h,_⟩:=DR.get l 0 hd i o (hL1 i o h hi)
   simpa using h
  ·exact(htail i o h hi).2
 obtain⟨hs1,hs2⟩:=xI l [] hsl
 have fin: ∀fuel done a w S,lH done=fuel→(∀j,l.length≤j→done.getD j false=false)→DJ E O G (l++t) ts done a w S→(∀i,i<l.length→done.getD i false=true)→wpAnyIn (fw E.r) 0 E.P .any (l++t).toArray Q fuel done a w:=by
  intro fuel done a w S hu hfree h hall
  refine z6 (n:=l.length) (fun m o hm ho=>(htail m o hm ho).1) hedge t l.length done fuel a w (dY _) (by simp) h.dsz (fun j hj=>⟨fun hjd=>?_,fun hlt=>hall j hlt⟩) hu
   (hQ a w S ⟨h.ext,h.sat,h.own,h.size,h.defers,fun j u hj=>?_⟩)
  ·rcases nL j l.length with h' |h'
   ·exact h'
   ·rw [hfree j h']at hjd;cases hjd
  ·rcases G3 l ts j u (fun o ho e=>by obtain⟨d,hd,_⟩:=hs1 o ho;rw [hd]at e;cases e) hlen hj with⟨i,o,h1,h2,h3⟩|⟨h1,h2⟩
   ·exact h.new i o j u (hL2 i o h1) (hall i (jP.1 h1).1) h2 h3
   ·refine h.old j u h1 fun i o ho hdn=>?_
    rcases nL i l.length with h' |h'
    ·exact h2 o (sM (hL1 i o h' ho))
    ·rw [hfree i h']at hdn;cases hdn
 have lower: ∀done a w S i,(∀j,l.length≤j→done.getD j false=false)→DJ E O G (l++t) ts done a w S→i∈Region.ready .any (l++t).toArray done→l.length≤i→ ∀j,j<l.length→done.getD j false=true:=by
  intro done a w S i hfree h hi hge j hj
  obtain⟨hun,p,hp,hwait⟩:=tw.1 hi
  have hp' :(l++t)[i]? =some p:=by simpa using hp
  have hcov:=(htail i p hge hp').1
  unfold wM at hcov
  have hre:=ki.1 hcov j (by simp;omega)
  exact gF h.down _ i j (fun q hq e he hb=>by
   have:q=p:=by rw [hp']at hq;simpa using hq.symm
   subst this
   exact hwait e he hb) hre
 intro fuel
 induction fuel with
 |zero=>
  intro done a w S hu hfree h
  exact fin 0 done a w S hu hfree h fun i hi=>uy hu (by rw [h.dsz,jx];omega)
 |succ fuel ih=>
  intro done a w S hu hfree h
  by_cases hall: ∀i,i<l.length→done.getD i false=true
  ·exact fin _ done a w S hu hfree h hall
  have hready0: ∀m i,i<m→i<l.length→Region.ready .any (l++t).toArray done=[]→done.getD i false=true:=by
   intro m
   induction m with
   |zero=>intro i h;omega
   |succ m ihm=>
    intro i him hil hr
    have his:i<done.size:=by rw [h.dsz,jx];omega
    by_cases hdn:done.getD i true=true
    ·rw [←oF his];exact hdn
    ·exfalso
     obtain⟨o,ho⟩: ∃o,(l++t)[i]? =some o:=⟨l[i],hL2 i _ (ph hil)⟩
     have hmem:i∈Region.ready .any (l++t).toArray done:=by
      rw [tw]
      refine⟨by simpa using hdn,o,by simpa using ho,fun e he hb=>?_⟩
      have:=hedge i o ho
      unfold fd at this
      have:=ki.1 this e (by simpa using he)
      simp only [hb,nh,sy,vY]at this
      exact ihm e.on (by omega) (by omega) hr
     rw [hr]at hmem;cases hmem
  refine⟨fun hr=>absurd (fun i hi=>hready0 (i+1) i (by omega) hi hr) hall,fun i hi=>?_⟩
  have hil:i<l.length:=by
   rcases nL i l.length with h' |h'
   ·exact h'
   ·exact absurd (lower done a w S i hfree h hi h') hall
  obtain⟨hun,o,ho,hwait⟩:=tw.1 hi
  have ho' :(l++t)[i]? =some o:=by simpa using ho
  have hol:=hL1 i o hil ho'
  obtain⟨needs,u,h1,h2,h3,_,h5⟩:=DR.get l 0 hd i o hol
  rw [ve]at h1 h3
  have hF:=h.need ho' hun hwait h2 h3
  have h6:=h5 a w S h.sat h.own hF
  have hu' :lH (done.setIfInBounds i true)=fuel:=by have:=qU hun;omega
  obtain⟨d,hdd,hdN,_⟩:=hs1 o (sM hol)
  have huq: ∀j p,(l++t)[j]? =some p→done.getD j false=true→p.dst=some d→i=j:=fun j p hj hjd hpd=>by
   rcases nL j l.length with h' |h'
   ·exact hs2 i j o p hol (hL1 j p h' hj) (by rw [hdd,hpd])
   ·rw [hfree j h']at hjd;cases hjd
  have hfree' : ∀j,l.length≤j→(done.setIfInBounds i true).getD j false=false:=fun j hj=>by
   rw [vk false (by omega)];exact hfree j hj
  unfold wpOpIn
  rw [ho]
  show if _ then _ else _
  by_cases hw:Region.wanted o (yielded (l++t).toArray a.tmps)=true
  ·rw [bk hw]at h6 ⊢
   refine lk (fun a' w' ⟨v,S',ha,he,hs,hv⟩=>?_) h6
   subst ha
   exact ih _ _ _ S' hu' hfree' (h.stepT ho' hdd hdN huq hwait h1 hun he hs hv)
  ·rw [aX hw]at h6 ⊢
   exact⟨fun _ _=>trivial,ih _ _ _ S hu' hfree' (h.stepT ho' hdd hdN huq hwait h1 hun (gz.refl _ _ _) h.sat h6)⟩
theorem TA{id:Nat}{l t:List Oper}(hL:L=l++t)(hm:E.P.follows .mixedOrders=true)(hsl:wm E.N.n [] l=true)(hlen:ts.length=l.length)(ht:zx L l.length t.length=true)(hd:DR E O G L ts 0 l)(k:RG E L.toArray Q t O (MO l ts G)):CG E Q (.region id L.toArray true) O G:=fun a w S st=>by
 subst hL
 refine wpIn_region_any hm ?_
 obtain⟨he,hs⟩:=yq (w:=w) st.sat
 refine JE hsl hlen hd ht (fun a w S st=>k a w S st) _ _ _ _ S ?_ (fun j _=>?_)
  ⟨st.ext.step0 he,hs,st.own.ext0 he,st.facts.size,st.facts.defers,by simp,fun j o hj hdone=>?_,fun k t hk _=>st.facts.at_ k t hk,fun j o d t hj hdone=>?_⟩
 ·unfold lH;rw [NV,NT];simp
 ·simp [zY];split<;>rfl
 ·simp [zY]at hdone
  split at hdone<;>simp at hdone
 ·simp [zY]at hdone
  split at hdone<;>simp at hdone

abbrev It(α:Type):=(σ:Type)→(α→σ→Option (Bool×σ))→σ→Option σ

def qL(Se:SH)(O:List OE):OE where
 fp:=fun k=> ∃f∈O,f.fp k
 p:=fun w S=>SH.le Se S∧cZ 0 p7 w S O
 here:=fun⟨_,h⟩ _ ⟨f,hf,hk⟩=>f.here (cZ.mem h f hf).1 _ hk
 kept:=fun⟨h1,h2⟩ k hC=>⟨SH.le_trans h1 k.keep,h2.ext k fun f hf b hb=>hC b ⟨f,hf,hb⟩⟩
variable{base:Nat}
theorem cZ.weak: ∀{O:List OE},cZ base B w S O→cZ 0 p7 w S O
 |[],_=>trivial
 |_::_,⟨h1,h2,h3⟩=>⟨⟨h1.1,fun _ _=> .inl (mA _)⟩,h2,cZ.weak h3⟩
theorem kP: ∀{O:List OE},cZ 0 p7 w S O→(∀f∈O,∀k,f.fp k→base≤k∨B k)→cZ base B w S O
 |[],_,_=>trivial
 |_::_,⟨h1,h2,h3⟩,h=>⟨⟨h1.1,h _ (lb ..)⟩,h2,kP h3 fun f hf=>h f (lc _ hf)⟩
def ww(l:Nat)(r:Loop)(st:LoopState):OE where
 fp:=fun k=>k=l
 p:=fun w S=>S l=none∧w.heap[l]? =some (.loop {r with state:=st,pending:=none})
 here:=by
  intro w S h k hk
  subst hk
  exact(wc.1 h.2).1
 kept:=by
  intro C w w' S S' h k hC
  have hlt:=(wc.1 h.2).1
  exact⟨by rw [k.old l hlt (hC l rfl)];exact h.1,by rw [k.heap l hlt (hC l rfl)];exact h.2⟩
def BF(b:Nat):OE where
 fp:=fun k=>k=b
 p:=fun w S=>S b=none∧w.heap[b]? =some (.deferred (some []))
 here:=by
  intro w S h k hk
  subst hk
  exact(wc.1 h.2).1
 kept:=by
  intro C w w' S S' h k hC
  have hlt:=(wc.1 h.2).1
  exact⟨by rw [k.old b hlt (hC b rfl)];exact h.1,by rw [k.heap b hlt (hC b rfl)];exact h.2⟩
def xY(b:Nat):Deferred:={target:= .collected b,args:= #[]}

def Zv(P:Program){α σ:Type}(args:α→List Ty)(y:α→σ→Option (Bool×σ))(I:σ→OE→Prop)(yv:Value):Prop:=
 ∃l,yv= .func (.yield l) #[] #[]∧ ∀x s r,y x s=some r→ ∀e,I s e→ ∀w S vs,jL w S→e.p w S→xl S (args x) vs→
  ∃f tmps assign body,(Instr.yield l vs.toArray).run P w= .ok (.round l f tmps assign body) w∧
   RoundIn (fw none) 0 P l f tmps assign body w fun en w' => ∃e' S',en= .returned (.bool r.1)∧I r.2 e' ∧gz e.fp w S w' S' ∧jL w' S' ∧e'.p w' S' ∧ ∀k,e'.fp k→e.fp k∨w.heap.size≤k
def Ts(P:Program){α:Type}(args:α→List Ty)(it:It α)(fid:FuncId)(cap:Array Value)(fp:Nat→Prop)(w:World)(S:SH):Prop:=
 ∀(σ:Type) (y:α→σ→Option (Bool×σ)) (s s' :σ),it σ y s=some s' → ∀I yv,Zv P args y I yv→ ∀e,I s e→e.p w S→(∀k,e.fp k→ ¬fp k)→
  Calls P fid (#[yv]++cap) w fun en w' => ∃e' S',(∃v,en= .returned v)∧I s' e' ∧gz (fun k=>e.fp k∨fp k) w S w' S' ∧jL w' S' ∧e'.p w' S' ∧ ∀k,e'.fp k→e.fp k∨w.heap.size≤k
def WY(P:Program){α:Type}(args:α→List Ty)(it:It α)(v:Value)(fp:Nat→Prop):OE where
 fp:=fp
 p:=fun w S=>(∀k,fp k→k<w.heap.size)∧ ∃fid cap,v= .func (.func fid) #[] cap∧an P fid=true∧
  ∀C w' S',gz C w S w' S' →(∀k,fp k→ ¬C k)→jL w' S' →Ts P args it fid cap fp w' S'
 here:=fun h k hk=>h.1 k hk
 kept:=by
  rintro C w w' S S' ⟨h1,fid,cap,h2,h3,h4⟩ k hC
  refine⟨fun b hb=>xq (h1 b hb) k.size,fid,cap,h2,h3,fun C' w'' S'' k' hC' hs=>?_⟩;exact h4 (fun b=>C b∨C' b) w'' S'' ((k.more fun b hb=> .inl hb).trans (k'.more fun b hb=> .inr hb)) (fun b hb h=>h.elim (hC b hb) (hC' b hb)) hs

def AA(P:Program)(fid:FuncId){α:Type}(args:α→List Ty)(it:It α)(O:List OE)(cts:List Ty):Prop:=
 ∀w S cap,jL w S→cZ 0 p7 w S O→xl S cts cap→Ts P args it fid cap.toArray (fun k=> ∃f∈O,f.fp k) w S
def Zi(E:En){σ:Type}(I:σ→OE→Prop)(s:σ)(e0:OE):Ending→World→Prop:=fun en w' => ∃e' S',(∃v,en= .returned v)∧I s e' ∧gz E.B E.w0 E.S0 w' S' ∧jL w' S' ∧e'.p w' S' ∧ ∀k,e'.fp k→e0.fp k∨E.w0.heap.size≤k
variable{σ:Type}{I:σ→OE→Prop}{args:α→List Ty}{cap:Nat}{cts:List Ty}{it:It α}
theorem AA.of(hf:P.funcs[f]? =some fn)(hb:fn.body=some c)(hN:fn.ntmps=N)(hn:Nat.ble (cts.length+1) N=true)(h: ∀(σ:Type) (y:α→σ→Option (Bool×σ)) (s s' :σ),it σ y s=some s' → ∀I yv,Zv P args y I yv→ ∀e,I s e→ ∀w0 S0 B,(∀k,B k→e.fp k∨ ∃f∈O,f.fp k)→
   CG ⟨P,⟨N,[]⟩,B,w0,S0,none⟩ (bodyPost P fn (Zi ⟨P,⟨N,[]⟩,B,w0,S0,none⟩ I s' e)) c (e::O) (tX 0 (tV yv::cts))):AA P f args it O cts:=by
 subst hN
 intro w S cap hs ho hc σ y s s' hit I yv hy e he hep hap
 have hown:cZ w.heap.size (fun k=>e.fp k∨ ∃f∈O,f.fp k) w S (e::O):=
  ⟨⟨hep,fun k hk=> .inr (.inl hk)⟩,fun f hf b hb hfb=>hap b hb ⟨f,hf,hfb⟩,kP ho fun f hf k hk=> .inr (.inr ⟨f,hf,hk⟩)⟩
 have hfacts:=mV (S:=S) (ts:=tV yv::cts) (vs:=yv::cap) ⟨rfl,hc⟩ fn.ntmps (by simpa using oP hn)
 have:=j4.1 (D6 (F:=fw none) (n:=0) hf hb trivial (h σ y s s' hit I yv hy e he w S (fun k=>e.fp k∨ ∃f∈O,f.fp k) (fun _ h=>h) _ w S ⟨gz.refl _ _ _,hs,hown,hfacts⟩))
 rw [show(#[yv]++cap.toArray:Array Value)=(yv::cap).toArray from by simp]
 exact this.mono fun en w' ⟨e',S',h1,h2,h3,h4,h5,h6⟩=>⟨e',S',h1,h2,h3,h4,h5,h6⟩
variable{ats:Array TypeId}{ops:Array Oper}
section
variable{ty:TypeId}
theorem Rz{e e' :OE}{O:List OE}(h:cZ base B w S (e::O))(k:gz e.fp w S w' S')(hp:e'.p w' S')(hn: ∀b,e'.fp b→e.fp b∨w.heap.size≤b)(hb:base≤w.heap.size):cZ base B w' S' (e' ::O):=
 ⟨⟨hp,fun b hb' =>(hn b hb').elim (fun h2=>h.1.2 b h2) (fun h2=> .inl (by omega))⟩,fun f hf b hb' hfb=>(hn b hb').elim (fun h2=>h.2.1 f hf b h2 hfb) (fun h2=>by
  have:=f.here (cZ.mem h.2.2 f hf).1 b hfb
  omega),h.2.2.ext k fun f hf b hb' h2=>h.2.1 f hf b h2 hb'⟩
theorem FF{y:α→σ→Option (Bool×σ)}{yv:Value}{x:α}{s:σ}{r:Bool×σ}{e:OE}{fo:Operand}{xs:List Operand}(hy:Zv E.P args y I yv)(he:I s e)(hq:y x s=some r)(hf:aO E.N G fo (tV yv))(hx:j6 E.N G xs (args x))(hd:Nat.blt d E.N.n=true)(k: ∀e',I r.2 e' →RG E ops Q rest (e' ::O) ((d,tD rB r.1)::G)):RG E ops Q (⟨some d,.call ⟨.value fo,xs.toArray,ats⟩,ty,pos,after,none⟩::rest) (e::O) G:= .of rfl fun a w S st=>by
 obtain⟨l,rfl,hyl⟩:=hy
 have h1:a.eval fo= .func (.yield l) #[] #[]:=hf S a st.facts
 obtain⟨f,tmps,assign,body,h2,h3⟩:=hyl x s r hq e he w S _ st.sat st.own.1.1 (hx.tys st.facts)
 have hr:(execOp a.eval ⟨some d,.call ⟨.value fo,xs.toArray,ats⟩,ty,pos,after,none⟩).run E.P w= .ok (.round l f tmps assign body) w:=by
  simp [execOp,resolve,h1,Deferred.ofValue,invoke]
  simpa using h2
 refine⟨fun c h=>(by cases h),?_⟩
 rw [hr]
 refine h3.mono fun en w' ⟨e',S',h4,h5,h6,h7,h8,h9⟩=>⟨_,h4,?_⟩;exact k e' h5 _ _ S' ⟨st.ext.step h6 (fun b hb=>st.own.1.2 b hb),h7,Rz st.own h6 h8 h9 st.base_le,(st.facts.mono h6.keep).put hd (jb.2 rfl)⟩
end
def Ha:List OE→List OE→Prop
 |[],_=>True
 |f::O,g::O' =>(∀k,f.fp k→g.fp k)∧Ha O O'
 |_::_,[]=>False
theorem Ha.mem: ∀{O O' :List OE},Ha O O' → ∀k,(∃f∈O,f.fp k)→ ∃f∈O',f.fp k
 |f::O,g::O',⟨h1,h2⟩,k,⟨q,hq,hk⟩=>by
  rcases gk.1 hq with e|e
  ·subst e;exact⟨g,lb ..,h1 k hk⟩
  ·obtain⟨q',h3,h4⟩:=Ha.mem h2 k ⟨q,e,hk⟩
   exact⟨q',lc _ h3,h4⟩
theorem Jl{s:σ}{e0 e:OE}{O0:List OE}(hr:fn.results= #[])(he:I s e)(hB: ∀k,B k→e0.fp k∨ ∃f∈O0,f.fp k)(hO:Ha O0 O):
  AT ⟨P,⟨N,[]⟩,B,w0,S0,none⟩ (bodyPost P fn (Zi ⟨P,⟨N,[]⟩,B,w0,S0,none⟩ I s e0)) .ret (e::O) G:=fun _ _ S st=>
 ⟨st.facts.defers,_,vu P fn hr _ _,e,S,⟨_,rfl⟩,he,st.ext,st.sat,st.own.1.1,fun k hk=>(st.own.1.2 k hk).elim .inr fun hb=>(hB k hb).elim .inl fun hx=>let⟨f,hf,hfk⟩:=hO.mem k hx;absurd hfk (st.own.2.1 f hf k hk)⟩
theorem LX{s:σ}{e0 e:OE}{O0:List OE}(hr:fn.results= #[])(he:I s e)(hB: ∀k,B k→e0.fp k∨ ∃f∈O0,f.fp k)(hO:Ha O0 O):
  AT ⟨P,⟨N,[]⟩,B,w0,S0,none⟩ (bodyPost P fn (Zi ⟨P,⟨N,[]⟩,B,w0,S0,none⟩ I s e0)) .normal (e::O) G:=fun a w S st=>Jl hr he hB hO a w S st

variable{O1:List OE}{ι:Type}{O2:ι→List OE}
theorem nK: ∀{O1 O2:List OE},cZ base B w S (O1++O2)→cZ base B w S O1∧cZ base B w S O2∧ ∀e∈O1,∀f∈O2,e.apart f
 |[],_,h=>⟨trivial,h,fun _ h=>(by cases h)⟩
 |e::O1,O2,⟨h1,h2,h3⟩=>by
  obtain⟨k1,k2,k3⟩:=nK h3
  refine⟨⟨h1,fun f hf=>h2 f (GF _ hf),k1⟩,k2,fun g hg f hf=>?_⟩
  rcases gk.1 hg with rfl|hg
  ·exact h2 f (List.mem_append_right _ hf)
  ·exact k3 g hg f hf
theorem cZ.cons{e:OE}(h1:e.holds base B w S)(h2: ∀f∈O,e.apart f)(h3:cZ base B w S O):cZ base B w S (e::O):=⟨h1,h2,h3⟩

def As(P:Program)(f:FuncId)(ts:List Ty){α:Type}(args:α→List Ty)(it:It α):Prop:=
 ∀w S vs,jL w S→xl S ts vs→Calls P f vs.toArray w fun e w' => ∃v fp S',e= .returned v∧gz p7 w S w' S' ∧jL w' S' ∧(WY P args it v fp).holds w.heap.size p7 w' S'
def Xf(E:En){α:Type}(args:α→List Ty)(it:It α):Ending→World→Prop:=fun e w' => ∃v fp S',e= .returned v∧gz E.B E.w0 E.S0 w' S' ∧jL w' S' ∧(WY E.P args it v fp).holds E.w0.heap.size E.B w' S'
theorem As.of(hf:P.funcs[f]? =some fn)(hb:fn.body=some c)(hN:fn.ntmps=N)(hn:Nat.ble ts.length N=true)(h: ∀w0 S0,CG ⟨P,⟨N,[]⟩,p7,w0,S0,none⟩ (bodyPost P fn (Xf ⟨P,⟨N,[]⟩,p7,w0,S0,none⟩ args it)) c [] (tX 0 ts)):As P f ts args it:=by
 subst hN
 intro w S vs hs hv
 exact j4.1 (D6 (F:=fw none) (n:=0) hf hb trivial (h w S _ w S ⟨gz.refl _ _ _,hs,trivial,mV hv _ (oP hn)⟩))
section
theorem LV{k:Nat}{v:Value}{fp:Nat→Prop}(hr:fn.results= #[.tmp k])(hk:dm G k=some (tV v)):
  AT ⟨P,⟨N,[]⟩,B,w0,S0,none⟩ (bodyPost P fn (Xf ⟨P,⟨N,[]⟩,B,w0,S0,none⟩ args it)) .ret (WY P args it v fp::O) G:=fun a w S st=>by
 have hv:a.tmps.getD k undef=v:=st.facts.at_ k _ hk
 exact⟨st.facts.defers,_,nj P fn k hr _ _,v,fp,S,by rw [hv],st.ext,st.sat,st.own.1⟩
section
variable{ty:TypeId}
theorem Hw{xs:List Operand}(hc:an E.P f=true)(hs:As E.P f ts args it)(hx:j6 E.N G xs ts)(hd:Nat.blt d E.N.n=true)(k: ∀v fp,RG E ops Q rest (WY E.P args it v fp::O) ((d,tV v)::G)):
  RG E ops Q (⟨some d,.call ⟨.value (.func f),xs.toArray,ats⟩,ty,pos,after,none⟩::rest) O G:= .of rfl fun a w S st=>by
 have hr:(execOp a.eval ⟨some d,.call ⟨.value (.func f),xs.toArray,ats⟩,ty,pos,after,none⟩).run E.P w= .ok (.enter f (xs.map a.eval).toArray) w:=by
  simp [execOp,resolve,Act.eval,Deferred.ofValue,invoke,eU hc]
 refine⟨fun c h=>(by cases h),?_⟩
 rw [hr]
 refine(hs w S _ st.sat (hx.tys st.facts)).mono fun e w' ⟨v,fp,S',he,h1,h2,h3⟩=>⟨_,he,?_⟩;exact k v fp _ _ S' ⟨st.ext.step0 h1,h2,qn st.own h1 h3.1 (fun b hb=>(h3.2 b hb).resolve_right id) st.base_le,(st.facts.mono h1.keep).put hd rfl⟩
theorem Dl{fid:FuncId}{O2:List OE}{caps:List Operand}(hO:O=O1++O2)(hc:an E.P fid=true)(hs:AA E.P fid args it O1 cts)(hcap:j6 E.N G caps cts)(hd:Nat.blt d E.N.n=true)(k: ∀v fp,RG E ops Q rest (WY E.P args it v fp::O2) ((d,tV v)::G)):
  RG E ops Q (⟨some d,.makeFunc (.func fid) #[] caps.toArray,ty,pos,after,none⟩::rest) O G:= .of rfl fun a w S st=>by
 subst hO
 have hr:(execOp a.eval ⟨some d,.makeFunc (.func fid) #[] caps.toArray,ty,pos,after,none⟩).run E.P w= .ok (.value (.func (.func fid) #[] (caps.map a.eval).toArray)) w:=by simp [execOp,Instr.makeFunc]
 refine⟨fun c h=>(by cases h),?_⟩
 rw [hr]
 obtain⟨h1,h2,h3⟩:=nK st.own
 have hcv:=hcap.tys st.facts
 refine k (.func (.func fid) #[] (caps.map a.eval).toArray) (fun k=> ∃f∈O1,f.fp k) _ _ S ⟨st.ext,st.sat,?_,st.facts.put hd rfl⟩;refine cZ.cons ⟨⟨fun b ⟨f,hf,hb⟩=>f.here (cZ.mem h1 f hf).1 b hb,fid,_,rfl,hc,fun C w' S' he hC hs' =>?_⟩,fun b ⟨f,hf,hb⟩=>(cZ.mem h1 f hf).2 b hb⟩ (fun f hf b ⟨g,hg,hb⟩=>h3 g hg f hf b hb) h2;exact hs w' S' _ hs' (h1.weak.ext he fun f hf b hb=>hC b ⟨f,hf,hb⟩) (hcv.mono he.keep)
end
end

def GY:List Nat→List Ty→lW→lW
 |d::ds,t::ts,G=>GY ds ts ((d,t)::G)
 |_,_,G=>G
theorem Ap{N:Fr}{S:SH}: ∀(ds:List Nat) (ts:List Ty) (vs:List Value) (a:Act) (G:lW),ds.length=ts.length→xl S ts vs→(ds.all fun d=>Nat.blt d N.n)=true→di N S a G→
  di N S {tmps:=(ds.zip vs).foldl (fun t (p:Nat×Value)=>t.setIfInBounds p.1 p.2) a.tmps,defers:=a.defers} (GY ds ts G)
 |[],_,_,_,_,hl,_,_,hF=>by
  cases uu hl.symm
  simpa [GY] using hF
 |d::ds,[],_,_,_,hl,_,_,_=>by simp at hl
 |d::ds,t::ts,[],_,_,_,hv,_,_=>hv.elim
 |d::ds,t::ts,v::vs,a,G,hl,⟨h1,h2⟩,hd,hF=>by
  simp only [zU,mz]at hd
  have:=Ap ds ts vs (a.put (some d) v) ((d,t)::G) (by simpa using hl) h2 hd.2 (hF.put hd.1 h1)
  simpa [GY,Act.put] using this
def Yg(E:En)(l:Nat)(rec:Loop){σ ι:Type}(Oi:ι→List OE)(dat:ι→σ)(s2:σ):Ending→World→Prop:=fun en w' =>
 ∃i S',en= .returned (.bool true)∧dat i=s2∧gz E.B E.w0 E.S0 w' S' ∧jL w' S' ∧cZ E.base E.B w' S' (ww l rec .ready::Oi i)
def Wp(E:En)(l:Nat)(body:Code)(R:Ending→World→Prop):Exit→Act→World→Prop:=
 Exit.then (fun a₁ w₁=> ∃w₂,(Instr.beginRound l).run E.P w₁= .ok () w₂∧body.wpIn (fw E.r) 0 E.P (roundPost E.P l R) a₁ w₂) (fun _ _ _=>False)
variable{rec:Loop}{x1 x2 x3:OE}
section
theorem Ij{l:Nat}{st st' :LoopState}{O:List OE}(h:cZ base B w S (ww l rec st::O))(hs:jL w S):
  gz (fun k=>k=l) w S (w.putObj l (.loop {rec with state:=st',pending:=none})) S∧jL (w.putObj l (.loop {rec with state:=st',pending:=none})) S∧cZ base B (w.putObj l (.loop {rec with state:=st',pending:=none})) S (ww l rec st' ::O):=by
 obtain⟨hno,hl⟩:=h.1.1
 have hlt:=(wc.1 hl).1
 have hext:gz (fun k=>k=l) w S (w.putObj l (.loop {rec with state:=st',pending:=none})) S:=⟨rfl,rfl,rfl,dY _,by simp,fun k _ hk=>World.putObj_heap_other hk,SH.le_refl _,fun _ _ _=>rfl⟩
 refine⟨hext,hs.same fun k o hk=>?_,⟨⟨hno,World.putObj_heap_same hlt⟩,h.1.2⟩,h.2.1,h.2.2.ext hext fun g hg k hk hkl=>h.2.1 g hg k hkl hk⟩
 have hne:k≠l:=fun e=>by subst e;rw [hno]at hk;cases hk
 exact World.putObj_heap_other hne
theorem TC{l:Nat}{body:Code}{R:Ending→World→Prop}(h:CG E (roundPost E.P l R) body (ww l rec .busy::O) G):AT E (Wp E l body R) .normal (ww l rec .ready::O) G:=fun a w S st=>by
 obtain⟨h1,h2,h3⟩:=Ij (st' := .busy) st.own st.sat
 obtain⟨_,hl⟩:=st.own.1.1
 exact⟨_,run_beginRound hl rfl,h a _ S ⟨st.ext.step h1 (fun c hc=>st.own.1.2 c hc),h2,h3,st.facts⟩⟩
theorem LY{l:Nat}{Oi:ι→List OE}{dat:ι→σ}{s2:σ}(i:ι)(hi:dat i=s2)(hO:O=Oi i):AT E (roundPost E.P l (Yg E l rec Oi dat s2)) .normal (ww l rec .busy::O) G:=fun a w S st=>by
 subst hO
 obtain⟨h1,h2,h3⟩:=Ij (st' := .ready) st.own st.sat
 obtain⟨_,hl⟩:=st.own.1.1
 exact⟨_,_,run_endRound none hl,i,S,rfl,hi,st.ext.step h1 (fun c hc=>st.own.1.2 c hc),h2,h3⟩
theorem w8{ps:Array Nat}{vs:List Value}{tmps:Array Value}:(ps.zip vs.toArray).foldl (fun t (p,v)=>t.setIfInBounds p v) tmps=(ps.toList.zip vs).foldl (fun t (p:Nat×Value)=>t.setIfInBounds p.1 p.2) tmps:=by
 rw [←Array.foldl_toList]
 simp
def Di{α σ:Type}(f:α→σ→Option σ):α→σ→Option (Bool×σ):=fun x s=>(f x s).map fun s' =>(true,s')
theorem QS{v:Value}{fp:Nat→Prop}(Oi:ι→List OE)(dat:ι→σ){f:α→σ→Option σ}{s' :σ}{g:Operand}{ps:List Nat}{assign body:Code}(hr:E.r=none)(hg:aO E.N G g (tV v))(i0:ι)(hO:O=WY E.P args it v fp::Oi i0)(hit:it σ (Di f) (dat i0)=some s')(hps: ∀x,ps.length=(args x).length)(hpn:(ps.all fun d=>Nat.blt d E.N.n)=true)(hbody: ∀(i:ι) (x:α) (s2:σ),f x (dat i)=some s2→ ∀(l:Nat) (rec:Loop) (w1:World) (S1:SH) (B1:Nat→Prop),
   CG ⟨E.P,⟨E.N.n,[]⟩,B1,w1,S1,some l⟩ (Wp ⟨E.P,⟨E.N.n,[]⟩,B1,w1,S1,some l⟩ l body (Yg ⟨E.P,⟨E.N.n,[]⟩,B1,w1,S1,some l⟩ l rec Oi dat s2)) assign (ww l rec .ready::Oi i) (GY ps (args x) G))(k: ∀i',dat i' =s' → ∀b,AT ⟨E.P,⟨E.N.n,xY b::E.N.ds⟩,E.B,E.w0,E.S0,E.r⟩ Q .normal (BF b::Oi i') G):CG E Q (.rangeFunc g ps.toArray assign body) O G:=fun a w S st=>by
 subst hO
 refine wpIn_rangeFunc fun fn _=>?_
 have hr0:(fw E.r).round=none:=hr
 have hfw:fw E.r=fw none:=by rw [hr]
 rw [hr0]
 obtain⟨rec,hrec⟩: ∃rec:Loop,rec={state:= .ready,pending:=none,fn,tmps:=a.tmps,params:=ps.toArray,assign,body,defers:=w.heap.size}:=⟨_,rfl⟩
 obtain⟨x1,x2,x3⟩:=gy (w:=w) (.deferred (some [])) st.sat
 obtain⟨y1,y2,y3⟩:=gy (w:=w.alloc (.deferred (some []))) (.loop rec) x2
 obtain⟨W1,hW1⟩: ∃W1,(w.alloc (.deferred (some []))).alloc (.loop rec)=W1:=⟨_,rfl⟩
 rw [hW1]at y1 y2
 have hsz:(w.alloc (.deferred (some []))).heap.size=w.heap.size+1:=by simp
 rw [hsz]at y3
 have hext:gz p7 w S W1 S:=x1.trans y1
 have hL1:W1.heap[w.heap.size+1]? =some (.loop rec):=by
  rw [←hW1];have:=World.alloc_heap_new (w.alloc (.deferred (some []))) (.loop rec);rwa [hsz]at this
 have hK1:W1.heap[w.heap.size]? =some (.deferred (some [])):=by
  rw [y1.heap w.heap.size (by omega) (fun h=>h)];exact World.alloc_heap_new w _
 have hW1s:W1.heap.size=w.heap.size+2:=by rw [←hW1];simp
 have hg' :a.eval g=v:=hg S a st.facts
 obtain⟨hit1,hap,hoi⟩:=st.own
 obtain⟨⟨hfp,gf,cap,hv,hcal,hcall⟩,hbase⟩:=hit1
 have hbl:=st.base_le
 have hoi1:cZ E.base E.B W1 S (Oi i0):=hoi.ext0 hext
 have hlt: ∀f∈Oi i0,∀k,f.fp k→k<w.heap.size:=fun f hf k hk=>f.here (cZ.mem hoi f hf).1 k hk
 refine⟨w.heap.size+1,[xY w.heap.size],W1,{target:= .fn (.func gf) cap,args:= #[.func (.yield (w.heap.size+1)) #[] #[]]},W1,gf,
  #[.func (.yield (w.heap.size+1)) #[] #[]]++cap,W1,?_,?_,fun _ _=>trivial,?_,fun h=>(by cases h),?_⟩
 ·rw [←hW1,hrec];exact run_enterLoop_outer _ _ _ _ _
 ·simp only [resolve,hg',hv]
  simp [go_sem]
 ·simp [invoke,go_sem,eU hcal]
 rw [hfw]
 refine j4.2 ?_
 have hyld:Zv E.P args (Di f) (fun s e=> ∃i,dat i=s∧e=qL S (ww (w.heap.size+1) rec .ready::Oi i)) (.func (.yield (w.heap.size+1)) #[] #[]):=by
  refine⟨_,rfl,?_⟩
  rintro x s r hy e ⟨i,rfl,rfl⟩ w2 S2 vs hs2 ⟨hle,hown⟩ hvs
  obtain⟨s2,hs2',rfl⟩: ∃s2,f x (dat i)=some s2∧r=(true,s2):=by
   unfold Di at hy
   cases hf:f x (dat i)with
   |none=>rw [hf]at hy;cases hy
   |some s2=>rw [hf]at hy;exact⟨s2,rfl,by simpa using hy.symm⟩
  have hl2:=hown.1.1.2
  have hvl:=hvs.length
  have hyr:=run_yield (P:=E.P) (args:=vs.toArray) hl2 (by rw [hrec];simp [hps x,hvl])
  refine⟨_,_,_,_,hyr,roundIn_of_wpIn trivial ?_⟩
  have:=hbody i x s2 hs2' (w.heap.size+1) rec w2 S2 (fun k=> ∃f∈ww (w.heap.size+1) rec .ready::Oi i,f.fp k)
   {tmps:=(ps.zip vs).foldl (fun t (p:Nat×Value)=>t.setIfInBounds p.1 p.2) a.tmps,defers:=[]} w2 S2
   ⟨gz.refl _ _ _,hs2,kP hown fun f hf k hk=> .inr ⟨f,hf,hk⟩,Ap ps (args x) vs ⟨a.tmps,[]⟩ G (hps x) hvs hpn ⟨st.facts.size,rfl,fun j t h=>t.mono hle (st.facts.at_ j t h)⟩⟩
  rw [hrec]
  rw [hrec]at this
  rw [w8]
  refine wpIn_mono this ?_
  intro e a3 w3 hp
  cases e with
  |normal=>
   obtain⟨w4,hb4,hp4⟩:=hp
   refine⟨w4,hb4,wpIn_mono hp4 ?_⟩
   have hR: ∀en w',Yg ⟨E.P,⟨E.N.n,[]⟩,fun k=> ∃f∈ww (w.heap.size+1) rec .ready::Oi i,f.fp k,w2,S2,some (w.heap.size+1)⟩ (w.heap.size+1) rec Oi dat s2 en w' →
     ∃e' S',en= .returned (.bool true)∧(∃i',dat i' =s2∧e' =qL S (ww (w.heap.size+1) rec .ready::Oi i'))∧gz (qL S (ww (w.heap.size+1) rec .ready::Oi i)).fp w2 S2 w' S' ∧jL w' S' ∧e'.p w' S' ∧ ∀k,e'.fp k→(qL S (ww (w.heap.size+1) rec .ready::Oi i)).fp k∨w2.heap.size≤k:=by
    rintro en w' ⟨i',S',h1,h2,h3,h4,h5⟩
    exact⟨_,S',h1,⟨i',h2,rfl⟩,h3,h4,⟨SH.le_trans hle h3.keep,h5.weak⟩,fun k ⟨f,hf,hk⟩=>((cZ.mem h5 f hf).2 k hk).symm⟩
   rw [hrec]at hR
   intro e5 a5 w5 hp5
   cases e5<;>simp only [roundPost]at hp5 ⊢
   case normal=>obtain⟨v5,w6,h1,h2⟩:=hp5;exact⟨v5,w6,h1,hR _ _ h2⟩
   case ret=>obtain⟨v5,w6,h1,h2⟩:=hp5;exact⟨v5,w6,h1,hR _ _ h2⟩
   case exit=>obtain⟨v5,w6,h1,h2⟩:=hp5;exact⟨v5,w6,h1,hR _ _ h2⟩
   case goto=>obtain⟨v5,w6,h1,h2⟩:=hp5;exact⟨v5,w6,h1,hR _ _ h2⟩
  |_=>exact hp
 have hrecE:W1.heap[w.heap.size+1]? =some (.loop {rec with state:= .ready,pending:=none}):=by rw [hL1,hrec]
 have he0:(qL S (ww (w.heap.size+1) rec .ready::Oi i0)).p W1 S:=⟨SH.le_refl _,⟨⟨y3,hrecE⟩,fun _ _=> .inl (mA _)⟩,fun f hf k hk hfk=>by have:=hlt f hf k hfk;have hk' :k=w.heap.size+1:=hk;omega,hoi1.weak⟩
 have hap0: ∀k,(qL S (ww (w.heap.size+1) rec .ready::Oi i0)).fp k→ ¬fp k:=by
  rintro k ⟨f,hf,hk⟩ hfk
  rcases gk.1 hf with rfl|hf
  ·have:=hfp k hfk;have hk' :k=w.heap.size+1:=hk;omega
  ·exact hap f hf k hfk hk
 refine(hcall p7 W1 S hext (fun _ _ h=>h) y2 σ (Di f) (dat i0) s' hit _ _ hyld _ ⟨i0,rfl,rfl⟩ he0 hap0).mono ?_
 rintro en w2 ⟨e',S2,⟨vr,rfl⟩,⟨i',hi',rfl⟩,hx2,hs2,⟨hle2,hown2⟩,hnew⟩
 have hl2:=hown2.1.1.2
 refine⟨none,_,run_endLoop hl2 (by simp),?_⟩
 have hb2:cZ E.base E.B w2 S2 (ww (w.heap.size+1) rec .ready::Oi i'):=by
  refine kP hown2 fun f hf k hk=>?_
  rcases hnew k ⟨f,hf,hk⟩with⟨f0,hf0,hk0⟩|h
  ·rcases gk.1 hf0 with rfl|hf0
   ·left;have hk' :k=w.heap.size+1:=hk0;omega
   ·exact(cZ.mem hoi f0 hf0).2 k hk0
  ·left;omega
 obtain⟨z1,z2,z3⟩:=Ij (st' := .exhausted) hb2 hs2
 have hdf:(BF w.heap.size).p W1 S:=⟨x3,hK1⟩
 have hnb: ∀k,(BF w.heap.size).fp k→ ¬((qL S (ww (w.heap.size+1) rec .ready::Oi i0)).fp k∨fp k):=by
  rintro k hk h
  have hk' :k=w.heap.size:=hk
  subst hk'
  rcases h with⟨f,hf,hfk⟩|h
  ·rcases gk.1 hf with rfl|hf
   ·have hk' :w.heap.size=w.heap.size+1:=hfk;omega
   ·have:=hlt f hf _ hfk;omega
  ·have:=hfp _ h;omega
 have sI:(BF w.heap.size).p w2 S2:=(BF w.heap.size).kept hdf hx2 hnb
 have hd3:=(BF w.heap.size).kept sI z1 (fun k hk hkl=>by have h1:k=w.heap.size:=hk;have h2:k=w.heap.size+1:=hkl;omega)
 have hBin: ∀k,((qL S (ww (w.heap.size+1) rec .ready::Oi i0)).fp k∨fp k)→E.w0.heap.size≤k∨E.B k:=by
  rintro k (⟨f,hf,hk⟩|h)
  ·rcases gk.1 hf with rfl|hf
   ·left;have hk' :k=w.heap.size+1:=hk;have:E.w0.heap.size≤w.heap.size:=hbl;omega
   ·exact(cZ.mem hoi f hf).2 k hk
  ·exact hbase k h
 refine k i' hi' w.heap.size _ _ S2 ⟨((st.ext.step0 hext).step hx2 hBin).step z1 (fun c hc=>z3.1.2 c hc),z2,?_,?_⟩
 ·refine cZ.cons ⟨hd3,fun k hk=> .inl (by have h1:k=w.heap.size:=hk;rw [h1];exact hbl)⟩ (fun f hf k hk hfk=>?_) z3.2.2
  have h1:k=w.heap.size:=hk
  rcases hnew k ⟨f,lc _ hf,hfk⟩with h2|h2
  ·exact hnb k hk (.inl h2)
  ·omega
 ·refine⟨st.facts.size,?_,fun j t hj=>t.mono (SH.le_trans (SH.le_refl S) hle2) (st.facts.at_ j t hj)⟩
  show xY w.heap.size::a.defers=_
  rw [st.facts.defers]
end

section
variable{R:Ending→World→Prop}{ds:List Deferred}
theorem sv(h:AT ⟨P,⟨N,[]⟩,B,w0,S0,none⟩ (bodyPost P fn R) .ret O G):AT ⟨P,⟨N,[]⟩,B,w0,S0,none⟩ (bodyPostM (fw none) 0 P fn R) .ret O G:=fun a w S st=>by
 obtain⟨h1,v,h2,h3⟩:=h a w S st
 show LeavesInM (fw none) 0 P fn a.tmps R a.defers .returning w
 rw [h1]
 exact⟨v,h2,h3⟩
theorem BV(h:AT ⟨P,⟨N,ds⟩,B,w0,S0,none⟩ (bodyPostM (fw none) 0 P fn R) .ret O G):AT ⟨P,⟨N,xY b::ds⟩,B,w0,S0,none⟩ (bodyPostM (fw none) 0 P fn R) .ret (BF b::O) G:=fun a w S st=>by
 show LeavesInM (fw none) 0 P fn a.tmps R a.defers .returning w
 rw [st.facts.defers]
 obtain⟨hno,hb⟩:=st.own.1.1
 have hlt:=(wc.1 hb).1
 have hext:gz (fun k=>k=b) w S (w.putObj b (.deferred none)) S:=⟨rfl,rfl,rfl,dY _,by simp,fun k _ hk=>World.putObj_heap_other hk,SH.le_refl _,fun _ _ _=>rfl⟩
 have hsat:jL (w.putObj b (.deferred none)) S:=st.sat.same fun k o hk=>by
  have hne:k≠b:=fun e=>by subst e;rw [hno]at hk;cases hk
  exact World.putObj_heap_other hne
 have:=h {a with defers:=ds} (w.putObj b (.deferred none)) S ⟨st.ext.step hext (fun c hc=>st.own.1.2 c hc),hsat,st.own.2.2.ext hext (fun g hg k hk hkb=>st.own.2.1 g hg k hkb hk),⟨st.facts.size,rfl,st.facts.at_⟩⟩
 exact⟨by simp,.inl ⟨b,_,rfl,run_takeDeferred hb,this⟩⟩
end
theorem LB{t:Ty}(hf:P.funcs[f]? =some fn)(hb:fn.body=some c)(hN:fn.ntmps=N)(hn:Nat.ble ts.length N=true)(h: ∀w0 S0,CG ⟨P,⟨N,[]⟩,p7,w0,S0,none⟩ (bodyPostM (fw none) 0 P fn (Lk ⟨P,⟨N,[]⟩,p7,w0,S0,none⟩ t)) c [] (tX 0 ts)):aR P f ts t:=by
 subst hN
 intro w S vs hs hv
 exact j4.1 (callsIn_of_wp_marks (F:=fw none) (n:=0) hf hb trivial (h w S _ w S ⟨gz.refl _ _ _,hs,trivial,mV hv _ (oP hn)⟩))

def rT(t:Ty):Rp Unit where
 sz:=1
 agg:=false
 rc:=fun S cs _=> ∃v,cs=[v]∧v.oneCell' =true∧t.p S v
 mono:=fun h ⟨v,e,k,l⟩=>⟨v,e,k,t.mono h l⟩
 len:=fun⟨_,e,_⟩=>by rw [e];rfl
 one:=fun⟨v,e,k,_⟩ c hc=>by rw [e]at hc;simp at hc;subst hc;exact k
 sc:=fun _=>rfl
theorem tRT{t:Ty}{u:Unit}{v:Value}:(tD (rT t) u).p S v↔v.oneCell' =true∧t.p S v:=by
 constructor
 ·rintro⟨cs,rfl,w,rfl,h1,h2⟩;exact⟨h1,h2⟩
 ·rintro⟨h1,h2⟩;exact⟨[v],rfl,v,rfl,h1,h2⟩
variable{get:α→β}{k' :IntKind}{lo:Int}{ys:List α}
section
variable{ty:TypeId}
theorem bZ.imp{t u:Ty}(h:bZ E O G o t)(k: ∀S v,t.p S v→u.p S v):bZ E O G o u:=fun a w S hs ho hf=>
 oC (fun _ _ ⟨v,S',h1,h2,h3,h4⟩=>⟨v,S',h1,h2,h3,k S' v h4⟩) (h a w S hs ho hf)
theorem DL{res:β→Ty}{f:α→Option β}(hx:aO E.N G x (ei E.P args res f)):bZ E O G ⟨dst,.box T x,ty,pos,after,g⟩ (bN (rT (ei E.P args res f)) ()):=
 MW (fun S a hf=>tRT.2 ⟨by obtain⟨_,_,e,_⟩:=hx S a hf;rw [e];rfl,hx S a hf⟩)
theorem vD{t:Ty}{p:Operand}(ti:TI E.P U 1 bytes false z)(hp:aO E.N G p (bN (rT t) ())):bZ E O G ⟨dst,.load U p,ty,pos,after,g⟩ t:=
 (bj (r:=rT t) (x:=()) ti rfl rfl hp).imp fun _ _ h=>(tRT.1 h).2

theorem EN:rV.rc S [.slice none 0 0] (bc none 0 0):=⟨rfl,rfl⟩
theorem R1{N:Fr}(h:aO N G x (tV (bc l cap n))):aO N G x (tD rV (bc l cap n)):=fun S a hf=>wj.2 ⟨h S a hf,by cases l<;>rfl⟩
theorem im{p:Operand}(ti:TI E.P U 1 bytes false z)(hm:bx rV T b (bc l cap n)∈O)(hp:aO E.N G p (tV (aS b 0))):
  bZ E O G ⟨dst,.load U p,ty,pos,after,g⟩ (tV (bc l cap n)):=(bE (q:=rV) (get:=fun x=>x) ti rfl rfl bw hm hp).imp fun _ _ h=>(wj.1 h).1

def dP{α:Type}(xs:List α)(lo hi:Int):Option (List α):=if 0≤lo∧lo≤hi∧hi≤(xs.length:Int)then some ((xs.take hi.toNat).drop lo.toNat)else none
theorem ii(h:dP xs lo hi=some ys): ∃l m:Nat,lo=l∧hi=m∧l≤m∧m≤xs.length∧ys=(xs.take m).drop l:=by
 unfold dP at h
 split at h
 ·rename_i hc
  exact⟨lo.toNat,hi.toNat,by omega,by omega,by omega,by omega,by simpa using h.symm⟩
 ·cases h
theorem Et{a:Option Addr}{l m:Nat}(h:JV r S a xs)(hl:l≤m)(hm:m≤xs.length)(hc:xs.length≤cap):
  JV r S (if cap=l then a else a.map (·.add (l*r.sz))) ((xs.take m).drop l):=by
 by_cases hlm:l=m
 ·left;subst hlm;simp
 right
 rcases h with h|⟨b,off,c,T,fr,e1,e2,e3⟩
 ·subst h;simp at hm;omega
 subst e1
 have hne: ¬(cap=l):=by omega
 refine⟨b,off+l*r.sz,c,T,fr,?_,e2,?_⟩
 ·rw [aX hne];simp [Addr.add]
 have hlen:((xs.take m).drop l).length=m-l:=by simp;omega
 have e4:xs=(xs.take m).take l++((xs.take m).drop l++xs.drop m):=by
  rw [←jO,ut,ut]
 have h1:((xs.take m).take l).length=l:=by simp;omega
 rw [e4]at e3
 have h2:=(q7 e3).2
 have h3:=(q7 h2).1
 rw [h1]at h3
 rw [hlen]at h3 ⊢
 rw [←e4]at h3
 rw [wX,za,oO]at h3
 have hmin:min ((m-l)*r.sz) (xs.length*r.sz-l*r.sz)=(m-l)*r.sz:=by
  rw [←Nat.sub_mul];exact AG (zd _ (by omega))
 rwa [hmin]at h3
theorem mb{n:Int}{y:Nat}{code:BoundsCode}(h0:0≤n)(h1:n≤y):(Instr.sliceBound (.int k n) y code).run P w= .ok n.toNat w:=by
 simp [Instr.sliceBound,asIntOf,h0,h1]
theorem MS{hi:Operand}(ht:E.P.underlying t=some (.slice T))(ti:TI E.P T sz bytes agg z)(hsz:r.sz=sz)(hx:aO E.N G x (tD (ik r) xs))(hhi:aO E.N G hi (tD (rI k') j))(h:dP xs 0 j=some ys):bZ E O G ⟨dst,.slice t x none (some hi) none,ty,pos,after,g⟩ (tD (ik r) ys):=
 .of_pure fun a w S _ _ hf=>by
  subst hsz
  obtain⟨ad,cap,h1,h2,h3,h4⟩:=o8.1 (hx S a hf)
  have h6:=cY.1 (hhi S a hf)
  obtain⟨l,m,hl,rfl,h7,h8,rfl⟩:=ii h
  have hl0:l=0:=by omega
  subst hl0
  have hlen:((xs.take m).drop 0).length=m-0:=by simp;omega
  refine⟨.slice (if cap=0 then ad else ad.map (·.add (0*r.sz))) (m-0) (cap-0),?_,o8.2 ⟨_,cap-0,by rw [hlen],by omega,by omega,Et h4 h7 h8 h2⟩⟩
  simp [execOp,Instr.sliceAt,h1,h6,Instr.slice,lF ht,Instr.sliceBounds,mb (k:=k') (n:=(m:Int)) (y:=cap) (by omega) (by omega),ti.sizeOf]
theorem MR{lo:Operand}{i:Int}(ht:E.P.underlying t=some (.slice T))(ti:TI E.P T sz bytes agg z)(hsz:r.sz=sz)(hx:aO E.N G x (tD (ik r) xs))(hlo:aO E.N G lo (tD (rI k) i))(h:dP xs i (xs.length:Int)=some ys):bZ E O G ⟨dst,.slice t x (some lo) none none,ty,pos,after,g⟩ (tD (ik r) ys):=
 .of_pure fun a w S _ _ hf=>by
  subst hsz
  obtain⟨ad,cap,h1,h2,h3,h4⟩:=o8.1 (hx S a hf)
  have h5:=cY.1 (hlo S a hf)
  obtain⟨l,m,rfl,hm,h7,h8,rfl⟩:=ii h
  have hm' :m=xs.length:=by omega
  subst hm'
  have hlen:((xs.take xs.length).drop l).length=xs.length-l:=by simp
  refine⟨.slice (if cap=l then ad else ad.map (·.add (l*r.sz))) (xs.length-l) (cap-l),?_,o8.2 ⟨_,cap-l,by rw [hlen],by omega,by omega,Et h4 h7 h8 h2⟩⟩
  simp [execOp,Instr.sliceAt,h1,h5,Instr.slice,lF ht,Instr.sliceBounds,mb (k:=k) (n:=(l:Int)) (y:=xs.length) (by omega) (by omega),ti.sizeOf]
end
theorem my{id:Nat}(m:Nat)(hm:E.P.follows .mixedOrders=true)(hsl:wm E.N.n [] (L.take m)=true)(hlen:ts.length=(L.take m).length)(ht:zx L (L.take m).length (L.drop m).length=true)(hd:DR E O G L ts 0 (L.take m))(k:RG E L.toArray Q (L.drop m) O (MO (L.take m) ts G)):CG E Q (.region id L.toArray true) O G:=TA (ut m L).symm hm hsl hlen ht hd k

def qN(P:Program){α:Type} [DecidableEq α](t:TypeId)(r:Rp α)(n:Nat):Prop:=
 ∀(S:SH) (cs ds:List Value) (x y:α) (d:Nat) (w:World),r.rc S cs x→r.rc S ds y→(Op.equalIn (d+n) t (r.val cs) (r.val ds)).run P w= .ok (decide (x=y)) w
theorem By(h:P.underlying t=some (.int k')):qN P t (rI k) (n+1):=fun S cs ds x y d w hx hy=>by
 have h1:cs=[.int k x]:=hx
 have h2:ds=[.int k y]:=hy
 subst h1 h2
 have:(Op.equalIn (d+n+1) t (.int k x) (.int k y)).run P w= .ok (x==y) w:=by simp [Op.equalIn,lF h]
 have e:(x==y)=decide (x=y):=by by_cases h:x=y<;>simp [h]
 rw [e]at this
 exact this
theorem Wd(h:P.underlying t=some .string):qN P t rS (n+1):=fun S cs ds x y d w hx hy=>by
 have h1:cs=[.string ⟨x.toArray⟩]:=hx
 have h2:ds=[.string ⟨y.toArray⟩]:=hy
 subst h1 h2
 have:=run_equalIn_string (P:=P) w (d+n) t ⟨x.toArray⟩ ⟨y.toArray⟩ h
 simp only [Rp.val,rS,List.headD_cons,gL,eT]
 rw [show d+(n+1)=d+n+1 from rfl,this]
 simp only [ByteArray.toList_eq]
 by_cases e:x=y<;>simp [e]
abbrev Fd:=TypeId×Nat×Bool
def Ng(f:Field):Fd:=(f.type,f.offset,f.name== "_")
def Qw(d:Nat)(xs ys:Array Value):List Fd→Sem Bool
 |[]=>pure true
 |f::fs=>
  if f.2.2=false then do
   let a←part f.1 xs f.2.1
   let b←part f.1 ys f.2.1
   let r←Op.equalIn d f.1 a b
   if(!r)=true then pure false else Qw d xs ys fs
  else Qw d xs ys fs
theorem Lj(d:Nat)(xs ys:Array Value): ∀fs:List Field,Op.eqFields d xs ys fs=Qw d xs ys (fs.map Ng)
 |[]=>rfl
 |f::fs=>by
  unfold Op.eqFields Qw
  rw [Lj d xs ys fs]
  by_cases h:f.name= "_"
  ·have e:((Ng f).2.2=false)=False:=by simp [Ng,h]
   simp only [vm,e,eT]
   rw [aX (by simpa using h)]
  ·have e:((Ng f).2.2=false)=True:=by simp [Ng,h]
   simp only [vm,e,fM]
   rw [bk (by simpa using h)]
   rfl
def Tw(P:Program){α:Type}(r:Rp α)(n:Nat)(fs:List Fd)(c:α→α→Bool):Prop:=
 ∀(S:SH) (cs ds:List Value) (x y:α) (d:Nat) (w:World),r.rc S cs x→r.rc S ds y→(Qw (d+n) cs.toArray ds.toArray fs).run P w= .ok (c x y) w
theorem Tw.nil:Tw P r n [] (fun _ _=>true):=fun _ _ _ _ _ _ _ _ _=>rfl
theorem sS(ti:TI P t sz bytes agg z)(hsz:q.sz=sz)(hag:q.agg=agg)(hf:pY r off q get){cs:List Value}{x:α}(hx:r.rc S cs x)(w:World):
  (part t cs.toArray off).run P w= .ok (q.val ((cs.drop off).take q.sz)) w:=by
 have h:=hf S cs x hx
 have hl:=q.len h
 subst hsz hag
 unfold part
 by_cases ha:q.agg=true
 ·have e1:=ti.isAgg w
  simp only [vf,e1,ha,xf,fM,ti.sizeOf,Sem.run_pure]
  unfold Rp.val
  rw [bk ha]
  congr 2
  apply Array.ext'
  simp
 ·rw [zW]at ha
  have e1:=ti.isAgg w
  have hs1:=q.sc ha
  simp only [vf,e1,ha,xf,gL,eT]
  rw [hs1]at hl ⊢
  obtain⟨v,hv⟩:=List.length_eq_one_iff.1 hl
  have hc:cs[off]? =some v:=by
   have:((cs.drop off).take 1)[0]? =some v:=by rw [hv];rfl
   rw [BZ (by omega),xr]at this
   simpa using this
  unfold Rp.val
  rw [hv,ha]
  simp [hc]
theorem Tw.cons [DecidableEq β]{t:Nat}{fs:List Fd}{c:α→α→Bool}(ti:TI P t sz bytes agg z)(hsz:q.sz=sz)(hag:q.agg=agg)(hf:pY r off q get)(he:qN P t q n)(hr:Tw P r n fs c):
  Tw P r n ((t,off,false)::fs) (fun x y=>decide (get x=get y)&&c x y):=fun S cs ds x y d w hx hy=>by
 have h1:=sS ti hsz hag hf hx w
 have h2:=sS ti hsz hag hf hy w
 have h3:=he S _ _ _ _ d w (hf S cs x hx) (hf S ds y hy)
 unfold Qw
 simp only [fM,vf,h1,h2,h3,xf]
 by_cases e:get x=get y
 ·simp only [e,CM,nh,gL,eT,vg]
  exact hr S cs ds x y d w hx hy
 ·simp [e]
theorem Nn [DecidableEq α]{t:Nat}{fs:List Fd}{c:α→α→Bool}(ht:(P.underlying t).map (fun d=>match d with| .struct l=>(true,l.toList.map Ng)|_=>(false,[]))=some (true,fs))(hp:P.stoodInHeld t=false)(ha:r.agg=true)(hr:Tw P r n fs c)(hc: ∀x y,c x y=decide (x=y)):qN P t r (n+1):=fun S cs ds x y d w hx hy=>by
 obtain⟨l,h1,h2⟩: ∃l,P.underlying t=some (.struct l)∧l.toList.map Ng=fs:=by
  cases hu:P.underlying t with
  |none=>rw [hu]at ht;cases ht
  |some d=>
   rw [hu]at ht
   cases d<;>simp at ht
   exact⟨_,rfl,ht⟩
 have hfo:P.fieldsOf t=l:=by unfold Program.fieldsOf;rw [h1]
 have:=run_equalIn_struct (P:=P) w (d+n) t cs.toArray ds.toArray (by rw [hfo];exact h1) hp
 rw [sN ha,sN ha,show d+(n+1)=d+n+1 from rfl,this,hfo,Lj,h2,hr S cs ds x y d w hx hy,hc]
theorem um [DecidableEq α](h:qN P t r n)(m:Nat):qN P t r (m+n):=fun S cs ds x y d w hx hy=>by
 have:=h S cs ds x y (d+m) w hx hy
 rwa [Nat.add_assoc]at this
theorem TH.of [DecidableEq α](hg:P.eqGuardType P.depth t=false)(h:qN P t r 20):TH P t r:=⟨hg,fun S cs ds x y d w hx hy=>h S cs ds x y d w hx hy⟩

theorem dL{l:List α}{e:α}(h:xs.drop i=e::l):decide ((i:Int)<(xs.length:Int))=true:=by
 have:i<xs.length:=by
  rcases nL i xs.length with h' |h'
  ·exact h'
  ·rw [Dp h']at h;cases h
 simp;omega
theorem dO(h:xs.drop i=[]):decide ((i:Int)<(xs.length:Int))=false:=by
 have:=HM.1 h
 simp;omega
theorem dc{l:List α}{e:α}(h:xs.drop i=e::l):xs.drop (i+1)=l:=by
 rw [←oO,h];rfl
theorem dA{l:List α}{e:α}(h:xs.drop i=e::l):de xs (i:Int)=some e:=by
 rw [cC]
 have:=xr (xs:=xs) (i:=i) (j:=0)
 rw [h]at this
 simpa using this.symm
theorem dd{l:List α}{e:α}(h:xs.drop i=e::l)(hN:xs.length≤maxLen):i<9223372036854775807:=by
 have:=Jv (dL h)
 simp only [maxLen]at hN
 omega
theorem Qf{k:Nat}(h:N-i=k+1):decide ((i:Int)<(N:Int))=true:=by simp;omega
theorem Qg(h:N-i=0):decide ((i:Int)<(N:Int))=false:=by simp;omega
theorem Iy{k:Nat}(h:N-i=k+1):N-(i+1)=k:=by omega
theorem Iz{k:Nat}(h:N-i=k+1)(hN:N≤9223372036854775807):i<9223372036854775807:=by omega
theorem Ul(h:n≤maxLen):n≤9223372036854775807:=by simp only [maxLen]at h;omega
variable{ix:Operand}{mm:Bool}{zs:List α}
section
variable{e:Exit}
section
variable{ty:TypeId}
theorem rF{one:Operand}{xt yt:TypeId}(hi:i<9223372036854775807)(hx:aO E.N G x (tD (rI .i64) (i:Int)))(h1:aO E.N G one (tD (rI .i64) 1)):
  bZ E O G ⟨dst,.binOp .add xt x one yt,ty,pos,after,g⟩ (tD (rI .i64) ((i+1:Nat):Int)):=by
 have e:IntKind.i64.wrap ((i:Int)+1)=((i+1:Nat):Int):=by
  rw [v6];omega
 have:=fV (E:=E) (O:=O) (dst:=dst) (ty:=ty) (pos:=pos) (after:=after) (g:=g) (xt:=xt) (yt:=yt) hx h1
 rwa [e]at this
end
theorem oN(hm:mB mm r T l cap xs∈O)(h:xs.length≤maxLen→CG E Q c O G):CG E Q c O G:=fun a w S st=>by
 refine h ?_ a w S st
 obtain⟨cells,h1,_⟩:=(st.own.mem _ hm).1
 cases l with
 |none=>have:=h1.1;omega
 |some b=>obtain⟨cur,_,g2,g3,_⟩:=h1;exact zp g2 g3
theorem St.dataAt{k:Nat}(h:St E O G a w S)(hk:dm G k=some (tO r l cap xs)):St E O ((k,tD (ik r) xs)::G) a w S:=h.cons (h.facts.at_ k _ hk).2
theorem jT(k:Nat)(hk:dm G k=some (tO r l cap xs))(h:AT E Q e O ((k,tD (ik r) xs)::G)):AT E Q e O G:=fun a w S st=>h a w S (st.dataAt hk)
def p8(l:Option Nat)(off:Nat):Value:=
 match l with
 |none=> .pointer none
 |some b=>aS b off
theorem vB(h:CA mm r T l cap xs w S){e:α}(hi:xs[i]? =some e):
  ∃b cur,l=some b∧w.heap[b]? =some (.cells cur T (0,0))∧xs.length≤cap∧cur.size=cap*r.sz∧r.rc S ((cur.toList.drop (i*r.sz)).take r.sz) e:=by
 obtain⟨cells,h1,h2,_⟩:=h
 have hlt:=(jP.1 hi).1
 cases l with
 |none=>have:=h1.1;omega
 |some b=>
  obtain⟨cur,g1,g2,g3,g4,g5⟩:=h1
  refine⟨b,cur,rfl,g1,g2,g4,?_⟩
  have h3:=A8 h2 hi
  rw [←g5,wX,za]at h3
  have h4:i*r.sz+r.sz≤xs.length*r.sz:=by
   rw [←CN];exact zd _ hlt
  rwa [AG (by omega)]at h3
theorem lC{i:Int}{e:α}(h:de xs i=some e):0≤i∧xs[i.toNat]? =some e:=by
 unfold de at h
 split at h
 ·exact⟨by assumption,h⟩
 ·cases h
section
variable{ty:TypeId}
theorem cB{e:TypeId}{i:Int}(ht:E.P.underlying t=some (.slice e))(ti:TI E.P e sz bytes agg z)(hm:mB mm r U l cap xs∈O)(hx:aO E.N G x (tV (bc l cap n)))(hi:aO E.N G ix (tD (rI k) i))(hy:de xs i=some y)(hn:n=xs.length:=by rfl):
  bZ E O G ⟨dst,.indexAddr t x ix,ty,pos,after,g⟩ (tV (p8 l (i.toNat*sz+0))):=
 .of_pure fun a w S _ ho hf=>by
  subst hn
  have h1:a.eval x=bc l cap xs.length:=hx S a hf
  have h3:a.eval ix= .int k i:=cY.1 (hi S a hf)
  obtain⟨h0,hy'⟩:=lC hy
  obtain⟨b,cur,rfl,_⟩:=vB (ho.mem _ hm).1 hy'
  have hlt:i.toNat<xs.length:=(jP.1 hy').1
  refine⟨_,?_,rfl⟩
  have hc:0≤i∧i<(xs.length:Int):=⟨h0,by omega⟩
  simp [execOp,h1,h3,bc,Instr.indexAt,asIntOf,lF ht,hc,ti.sizeOf,jK,p8,aS]
theorem fJ{foff:Nat}{i:Int}{p:Operand}(ti:TI E.P T sz bytes agg z)(hsz:q.sz=sz)(hag:q.agg=agg)(hget:pY r foff q get)(hoff:Nat.ble (foff+q.sz) r.sz=true)(hm:mB mm r U l cap xs∈O)(hy:de xs i=some y)(hp:aO E.N G p (tV (p8 l (i.toNat*r.sz+foff)))):bZ E O G ⟨dst,.load T p,ty,pos,after,g⟩ (tD q (get y)):=
 .of_pure fun a w S _ ho hf=>by
  have h1:a.eval p=p8 l (i.toNat*r.sz+foff):=hp S a hf
  obtain⟨h0,hy'⟩:=lC hy
  obtain⟨b,cur,rfl,hb,_,_,h6⟩:=vB (ho.mem _ hm).1 hy'
  have hoff' :=oP hoff
  have h7:=hget S _ _ h6
  rw [wX,za,oO,AG (by omega)]at h7
  refine⟨_,?_,_,rfl,h7⟩
  simp [execOp,h1,p8,aS,Instr.loadAt,Instr.sureAddr,kS ti hb hsz hag h7]
theorem Gj{o:Nat}{p:Operand}(hf:da E.P T i=some (off,sz))(h0:Nat.beq sz 0=false)(hm:mB mm r U l cap xs∈O)(hy:de xs j=some y)(hp:aO E.N G p (tV (p8 l o))):
  bZ E O G ⟨dst,.fieldAddr T p i,ty,pos,after,g⟩ (tV (p8 l (o+off))):=
 .of_pure fun a w S _ ho hF=>by
  have h1:a.eval p=p8 l o:=hp S a hF
  obtain⟨_,hy'⟩:=lC hy
  obtain⟨b,cur,rfl,_⟩:=vB (ho.mem _ hm).1 hy'
  obtain⟨fs,f,e1,e2,e3,e4⟩:=Ca hf
  have h0' :sz≠0:=fun e=>by subst e;simp at h0
  refine⟨_,?_,rfl⟩
  simp [execOp,h1,p8,aS,Instr.fieldAt,lF e1,e2,Instr.sureAddr,fieldPlace,e4,h0',e3,jK]
end
theorem A7{α:Type}{r:Rp α}{S:SH}{y:α}{c:List Value}(hc:r.rc S c y): ∀{xs:List α} {i:Nat} {cs:List Value},u9 r S cs xs→i<xs.length→u9 r S (cs.take (i*r.sz)++c++cs.drop (i*r.sz+r.sz)) (xs.set i y)
 |[],_,_,_,h=>by simp at h
 |x::xs,0,cs,⟨a,b,e,h1,h2⟩,_=>by
  have hl:=r.len h1
  refine⟨c,b,?_,hc,h2⟩
  rw [e,←hl];simp
 |x::xs,i+1,cs,⟨a,b,e,h1,h2⟩,h=>by
  have hl:=r.len h1
  have ih:=A7 hc h2 (i:=i) (by simpa using h)
  refine⟨a,_,?_,h1,ih⟩
  have e1:(i+1)*r.sz=a.length+i*r.sz:=by rw [hl,uU];omega
  rw [e,e1,List.take_length_add_append,Nat.add_assoc,List.drop_length_add_append]
  simp
theorem tq{set:α→β→α}{foff:Nat}{v:β}{i:Int}{p:Operand}{ty:TypeId}(ti:TI E.P T sz bytes agg z)(hsz:q.sz=sz)(hset:j5 r foff q set)(hoff:Nat.ble (foff+q.sz) r.sz=true)(hy:de xs i=some y)(hz:xs.set i.toNat (set y v)=zs)(hp:aO E.N G p (tV (p8 l (i.toNat*r.sz+foff))))(hx:aO E.N G x (tD q v))(k:RG E ops Q rest (fL r U l cap zs::O) G):
  RG E ops Q (⟨none,.store T p x,ty,pos,after,none⟩::rest) (fL r U l cap xs::O) G:= .of rfl fun a w S st=>by
 subst hz
 have h1:a.eval p=p8 l (i.toNat*r.sz+foff):=hp S a st.facts
 obtain⟨ds,h2,h3⟩:=hx S a st.facts
 obtain⟨h0,hy'⟩:=lC hy
 have hlt:i.toNat<xs.length:=(jP.1 hy').1
 obtain⟨cells,hraw,hrc,hno⟩:=st.own.1.1
 obtain⟨b,cur,rfl,hb,hle,hcs,h6⟩:=vB st.own.1.1 hy'
 obtain⟨cur',hb',hle',hmax,hcs',hct⟩:=hraw
 have hcc:cur' =cur:=by rw [hb]at hb';injection hb' with e;injection e with e1;exact e1.symm
 subst hcc
 have hno' :S b=none:=hno b rfl
 have hoff' :=oP hoff
 have hl3:=q.len h3
 have hmul:i.toNat*r.sz+r.sz≤xs.length*r.sz:=by rw [←CN];exact zd _ hlt
 have hmul2:xs.length*r.sz≤cur'.size:=by rw [hcs];exact zd _ hle
 obtain⟨w',hr,e1,e2,e3,e4,e5,e6⟩:=jW ti hsz h3 hb (off:=i.toNat*r.sz+foff) (by omega)
 have hrun:(execOp a.eval ⟨none,.store T p x,ty,pos,after,none⟩).run E.P w= .ok .skip w' :=by
  simp [execOp,h1,h2,Instr.storeAt,p8,aS,Instr.sureAddr,hr]
 refine⟨fun c h=>(by cases h),?_⟩
 rw [hrun]
 have hnew:=hset S _ _ _ _ h6 h3
 have hrc' :=A7 hnew hrc hlt
 have hcl:=pb hrc
 have hcells:(cur'.toList.take (i.toNat*r.sz+foff)++ds++cur'.toList.drop (i.toNat*r.sz+foff+q.sz)).take (xs.length*r.sz)=
   cells.take (i.toNat*r.sz)++(((cur'.toList.drop (i.toNat*r.sz)).take r.sz).take foff++ds++((cur'.toList.drop (i.toNat*r.sz)).take r.sz).drop (foff+q.sz))++cells.drop (i.toNat*r.sz+r.sz):=by
  subst hct
  apply Jt
  intro j
  simp only [List.getElem?_take,List.getElem?_append,xr,CR,D7,jx,D8]
  rcases nL j (xs.length*r.sz)with hj|hj
  ·simp only [hj,fM]
   rcases nL j (i.toNat*r.sz)with hj1|hj1
   ·rw [bk (by omega),bk (by omega),bk (by omega),bk (by omega),bk (by omega),bk (by omega)]
   ·rcases nL j (i.toNat*r.sz+foff)with hj2|hj2
    ·rw [bk (by omega),bk (by omega),bk (by omega),bk (by omega),aX (by omega),bk (by omega),bk (by omega),bk (by omega),bk (by omega)]
     congr 1;omega
    ·rcases nL j (i.toNat*r.sz+foff+q.sz)with hj3|hj3
     ·rw [bk (by omega),aX (by omega),bk (by omega),aX (by omega),bk (by omega),aX (by omega)]
      congr 1;omega
     ·rw [aX (by omega)]
      rcases nL j (i.toNat*r.sz+r.sz)with hj4|hj4
      ·rw [bk (by omega),aX (by omega),aX (by omega),bk (by omega)]
       congr 1;omega
      ·rw [aX (by omega),bk (by omega)]
       congr 1;omega
  ·rw [aX (by omega),aX (by omega),aX (by omega)]
 obtain⟨g1,g2,g3⟩:=pS (O:=O) st.sat (fL r U (some b) cap xs) (fL r U (some b) cap (xs.set i.toNat (set y v))) st.own (fun k=>⟨fun h=>(p5 h).symm,fun h=>by rw [h];rfl⟩) (fun k=>⟨fun h=>(p5 h).symm,fun h=>by rw [h];rfl⟩) ⟨e1,e2,e3,e4.1,e4.2⟩ e6
  ⟨_,⟨_,e5,by rw [Gy];exact hle,hmax,by simp only [GC,jx,CR,D7,D8];omega,by rw [Gy];exact hcells⟩,hrc',fun k hk=>by rw [←p5 hk];exact hno'⟩ hno'
 exact k _ _ S ⟨st.ext.step g1 (fun c hc=>st.own.1.2 c (by rw [hc];rfl)),g2,g3,st.facts⟩

def oQ(sz:Nat)(l:Option Nat)(cap lo n:Nat):Value:=
 match l with
 |none=> .slice none 0 0
 |some b=> .slice (some ⟨b,if cap=lo then 0 else lo*sz,none⟩) n (cap-lo)
section
variable{ty:TypeId}
theorem GZ(h:CA mm r U l cap xs w S): ∃ad c,bc l cap xs.length= .slice ad xs.length c∧xs.length≤c∧ad=l.map (fun b=>⟨b,0,none⟩)∧(l=none→c=0∧xs=[])∧(l≠none→c=cap):=by
 obtain⟨cells,h1,_⟩:=h
 cases l with
 |none=>
  have hx:xs=[]:=uu h1.1
  subst hx
  exact⟨none,0,rfl,dY _,rfl,fun _=>⟨rfl,rfl⟩,fun h=>absurd rfl h⟩
 |some b=>
  obtain⟨cur,_,g2,_⟩:=h1
  exact⟨_,cap,rfl,g2,rfl,fun h=>(by cases h),fun _=>rfl⟩
theorem lx{hi:Operand}(ht:E.P.underlying t=some (.slice T))(ti:TI E.P T sz bytes agg z)(hsz:r.sz=sz)(hm:mB mm r U l cap xs∈O)(hx:aO E.N G x (tV (bc l cap n)))(hhi:aO E.N G hi (tD (rI k') j))(h:dP xs 0 j=some ys)(hn:n=xs.length:=by rfl):bZ E O G ⟨dst,.slice t x none (some hi) none,ty,pos,after,g⟩ (tV (bc l cap ys.length)):=
 .of_pure fun a w S _ ho hf=>by
  subst hsz
  subst hn
  have h1:a.eval x=bc l cap xs.length:=hx S a hf
  obtain⟨ad,c,h2,h3,h4,h5,h5'⟩:=GZ (ho.mem _ hm).1
  have h6:=cY.1 (hhi S a hf)
  obtain⟨lo,m,hl,rfl,h7,h8,rfl⟩:=ii h
  have hl0:lo=0:=by omega
  subst hl0
  have hlen:((xs.take m).drop 0).length=m:=by simp;omega
  refine⟨_,?_,rfl⟩
  rw [h2]at h1
  have hr:(execOp a.eval ⟨dst,.slice t x none (some hi) none,ty,pos,after,g⟩).run E.P w= .ok (.value (.slice ad m c)) w:=by
   simp [execOp,Instr.sliceAt,h1,h6,Instr.slice,lF ht,Instr.sliceBounds,mb (k:=k') (n:=(m:Int)) (y:=c) (by omega) (by omega),ti.sizeOf]
   cases ad<;>simp [Addr.add]
  rw [hr,hlen,h4]
  cases l with
  |none=>
   obtain⟨rfl,rfl⟩:=h5 rfl
   have:m=0:=by simpa using h8
   subst this;rfl
  |some b=>rw [h5' (by simp)];rfl
theorem n9{lo:Operand}{i:Int}(ht:E.P.underlying t=some (.slice T))(ti:TI E.P T sz bytes agg z)(hsz:r.sz=sz)(hm:mB mm r U l cap xs∈O)(hx:aO E.N G x (tV (bc l cap n)))(hlo:aO E.N G lo (tD (rI k) i))(h:dP xs i (xs.length:Int)=some ys)(hn:n=xs.length:=by rfl):bZ E O G ⟨dst,.slice t x (some lo) none none,ty,pos,after,g⟩ (tV (oQ sz l cap i.toNat ys.length)):=
 .of_pure fun a w S _ ho hf=>by
  subst hsz
  subst hn
  have h1:a.eval x=bc l cap xs.length:=hx S a hf
  obtain⟨ad,c,h2,h3,h4,h5,h5'⟩:=GZ (ho.mem _ hm).1
  have h6:=cY.1 (hlo S a hf)
  obtain⟨lo',m,rfl,hm',h7,h8,rfl⟩:=ii h
  have hm2:m=xs.length:=by omega
  subst hm2
  have hlen:((xs.take xs.length).drop lo').length=xs.length-lo' :=by simp
  refine⟨_,?_,rfl⟩
  rw [h2]at h1
  have hr:(execOp a.eval ⟨dst,.slice t x (some lo) none none,ty,pos,after,g⟩).run E.P w= .ok (.value (.slice (if c=lo' then ad else ad.map (·.add (lo' *r.sz))) (xs.length-lo') (c-lo'))) w:=by
   simp [execOp,Instr.sliceAt,h1,h6,Instr.slice,lF ht,Instr.sliceBounds,mb (k:=k) (n:=(lo' :Int)) (y:=xs.length) (by omega) (by omega),ti.sizeOf]
  rw [hr,hlen,h4]
  cases l with
  |none=>
   obtain⟨rfl,rfl⟩:=h5 rfl
   have:lo' =0:=by simpa using h7
   subst this;rfl
  |some b=>
   rw [h5' (by simp)]
   unfold oQ
   simp only [AH,Option.map_some,jK,ve]
   split<;>rfl
theorem Es{i:Int}(h:dP xs lo hi=some ys)(hy:de ys i=some y):de xs (lo+i)=some y∧0≤lo∧0≤i:=by
 obtain⟨l,m,rfl,rfl,h1,h2,rfl⟩:=ii h
 obtain⟨h0,h3⟩:=lC hy
 refine⟨?_,by omega,h0⟩
 obtain⟨j,rfl⟩: ∃j:Nat,i=j:=⟨i.toNat,by omega⟩
 rw [show((l:Int)+(j:Int))=((l+j:Nat):Int)from by omega,cC]
 rw [xr,AH]at h3
 have hlt:l+j<m:=by
  have:=(jP.1 h3).1
  simp at this;omega
 rwa [BZ hlt]at h3
theorem Gi{e:TypeId}{i:Int}(ht:E.P.underlying t=some (.slice e))(ti:TI E.P e sz bytes agg z)(hsz:r.sz=sz)(hm:mB mm r U l cap xs∈O)(hs:dP xs lo hi=some ys)(hx:aO E.N G x (tV (oQ sz l cap lo.toNat ys.length)))(hi' :aO E.N G ix (tD (rI k) i))(hy:de ys i=some y):
  bZ E O G ⟨dst,.indexAddr t x ix,ty,pos,after,g⟩ (tV (p8 l ((lo+i).toNat*sz+0))):=
 .of_pure fun a w S _ ho hf=>by
  subst hsz
  have h1:a.eval x=oQ r.sz l cap lo.toNat ys.length:=hx S a hf
  have h3:a.eval ix= .int k i:=cY.1 (hi' S a hf)
  obtain⟨hxi,hl0,hi0⟩:=Es hs hy
  obtain⟨_,hx'⟩:=lC hxi
  obtain⟨b,cur,rfl,_,hle,_⟩:=vB (ho.mem _ hm).1 hx'
  have hlt:i.toNat<ys.length:=(jP.1 (lC hy).2).1
  have hlt2:(lo+i).toNat<xs.length:=(jP.1 hx').1
  have hne: ¬(cap=lo.toNat):=by omega
  refine⟨_,?_,rfl⟩
  have hc:0≤i∧i<(ys.length:Int):=⟨hi0,by omega⟩
  have e1:(lo+i).toNat=lo.toNat+i.toNat:=by omega
  simp [execOp,h1,h3,oQ,hne,Instr.indexAt,asIntOf,lF ht,hc,ti.sizeOf,jK,p8,aS,e1,uU]
theorem Uf{e:TypeId}(ht:E.P.underlying t=some (.slice e))(hm:mB mm r U l cap xs∈O)(hs:dP xs lo hi=some ys)(hx:aO E.N G x (tV (oQ sz l cap lo.toNat ys.length))):
  bZ E O G ⟨dst,.call ⟨.builtin .len,#[x],#[t]⟩,ty,pos,after,g⟩ (tD (rI .i64) (ys.length:Int)):=
 .of_pure fun a w S _ ho hf=>by
  have h1:a.eval x=oQ sz l cap lo.toNat ys.length:=hx S a hf
  obtain⟨ad,c,h3⟩: ∃ad c,oQ sz l cap lo.toNat ys.length= .slice ad ys.length c:=by
   cases l with
   |none=>
    obtain⟨_,h2,_⟩:=(ho.mem _ hm).1
    have hx0:xs=[]:=uu h2.1
    subst hx0
    obtain⟨l',m,_,_,_,h8,rfl⟩:=ii hs
    exact⟨none,0,by simp [oQ]⟩
   |some b=>exact⟨_,_,rfl⟩
  refine⟨.int .i64 ys.length,?_,cY.2 rfl⟩
  simp [execOp,resolve,invoke,builtin,Builtin.len_,lF ht,h1,h3,goInt]
end
theorem Wr(h:dP xs 0 j=some ys)(k:CA false r U l cap xs w S):CA false r U l cap ys w S:=by
 obtain⟨lo,m,hl,rfl,h7,h8,rfl⟩:=ii h
 have hl0:lo=0:=by omega
 subst hl0
 obtain⟨cells,h1,h2,h3⟩:=k
 have hlen:((xs.take m).drop 0).length=m:=by simp;omega
 have h4:u9 r S (cells.take (m*r.sz)) (xs.take m):=by
  have e:xs=xs.take m++xs.drop m:=(ut _ _).symm
  rw [e]at h2
  have:=(q7 h2).1
  rwa [show(xs.take m).length=m from by simp;omega]at this
 refine⟨cells.take (m*r.sz),?_,by simpa using h4,fun b hb=>h3 b hb⟩
 rw [hlen]
 cases l with
 |none=>
  obtain⟨g1,g2⟩:=h1
  exact⟨by omega,by rw [g2];simp⟩
 |some b=>
  obtain⟨cur,g1,g2,g3,g4,g5⟩:=h1
  exact⟨cur,g1,by omega,g3,g4,by rw [←g5,za,AG (zd _ h8)]⟩
theorem St.cut(h:dP xs 0 j=some ys)(st:St E (fL r U l cap xs::O) G a w S):St E (fL r U l cap ys::O) G a w S:=
 st.own_map fun ho=>⟨⟨Wr h ho.1.1,ho.1.2⟩,ho.2.1,ho.2.2⟩
theorem wT(h:dP xs 0 j=some ys)(k:RG E ops Q rest (fL r U l cap ys::O) G):RG E ops Q rest (fL r U l cap xs::O) G:=fun a w S st=>k a w S (st.cut h)
end

variable{x0 x4 x5 x6 x7 x8 x9:OE}
section
variable{e:Exit}
theorem Ay{O:List OE}(h:cZ base B w S (x0::x1::x2::x3::x4::x5::O)):cZ base B w S (x5::x0::x1::x2::x3::x4::O):=
 (ss h ui (fun f hf=>by simp only [gk]at hf ⊢;rcases hf with h|h|h|h|h|h<;>simp [h])).swap
theorem Hu(h:RG E ops Q rest (x5::x0::x1::x2::x3::x4::O) G):RG E ops Q rest (x0::x1::x2::x3::x4::x5::O) G:=fun a w S st=>h a w S (st.own_map Ay)
theorem HJ(h:AT E Q e (x5::x0::x1::x2::x3::x4::O) G):AT E Q e (x0::x1::x2::x3::x4::x5::O) G:=fun a w S st=>h a w S (st.own_map Ay)
theorem uh{O:List OE}(h:cZ base B w S (x0::x1::x2::x3::x4::x5::x6::O)):cZ base B w S (x6::x0::x1::x2::x3::x4::x5::O):=
 (ss h Ay (fun f hf=>by simp only [gk]at hf ⊢;rcases hf with h|h|h|h|h|h|h<;>simp [h])).swap
theorem y5(h:RG E ops Q rest (x6::x0::x1::x2::x3::x4::x5::O) G):RG E ops Q rest (x0::x1::x2::x3::x4::x5::x6::O) G:=fun a w S st=>h a w S (st.own_map uh)
theorem vX(h:AT E Q e (x6::x0::x1::x2::x3::x4::x5::O) G):AT E Q e (x0::x1::x2::x3::x4::x5::x6::O) G:=fun a w S st=>h a w S (st.own_map uh)
theorem HA(h:LG E Q c (x6::x0::x1::x2::x3::x4::x5::O) G):LG E Q c (x0::x1::x2::x3::x4::x5::x6::O) G:=fun a w S st=>h a w S (st.own_map uh)
theorem ug{O:List OE}(h:cZ base B w S (x0::x1::x2::x3::x4::x5::x6::x7::O)):cZ base B w S (x7::x0::x1::x2::x3::x4::x5::x6::O):=
 (ss h uh (fun f hf=>by simp only [gk]at hf ⊢;rcases hf with h|h|h|h|h|h|h|h<;>simp [h])).swap
theorem QK(h:RG E ops Q rest (x7::x0::x1::x2::x3::x4::x5::x6::O) G):RG E ops Q rest (x0::x1::x2::x3::x4::x5::x6::x7::O) G:=fun a w S st=>h a w S (st.own_map ug)
theorem QX(h:AT E Q e (x7::x0::x1::x2::x3::x4::x5::x6::O) G):AT E Q e (x0::x1::x2::x3::x4::x5::x6::x7::O) G:=fun a w S st=>h a w S (st.own_map ug)
theorem Hz(h:LG E Q c (x7::x0::x1::x2::x3::x4::x5::x6::O) G):LG E Q c (x0::x1::x2::x3::x4::x5::x6::x7::O) G:=fun a w S st=>h a w S (st.own_map ug)
theorem Ax{O:List OE}(h:cZ base B w S (x0::x1::x2::x3::x4::x5::x6::x7::x8::O)):cZ base B w S (x8::x0::x1::x2::x3::x4::x5::x6::x7::O):=
 (ss h ug (fun f hf=>by simp only [gk]at hf ⊢;rcases hf with h|h|h|h|h|h|h|h|h<;>simp [h])).swap
theorem HI(h:AT E Q e (x8::x0::x1::x2::x3::x4::x5::x6::x7::O) G):AT E Q e (x0::x1::x2::x3::x4::x5::x6::x7::x8::O) G:=fun a w S st=>h a w S (st.own_map Ax)
theorem QN(h:LG E Q c (x8::x0::x1::x2::x3::x4::x5::x6::x7::O) G):LG E Q c (x0::x1::x2::x3::x4::x5::x6::x7::x8::O) G:=fun a w S st=>h a w S (st.own_map Ax)
theorem FJ{O:List OE}(h:cZ base B w S (x0::x1::x2::x3::x4::x5::x6::x7::x8::x9::O)):cZ base B w S (x9::x0::x1::x2::x3::x4::x5::x6::x7::x8::O):=
 (ss h Ax (fun f hf=>by simp only [gk]at hf ⊢;rcases hf with h|h|h|h|h|h|h|h|h|h<;>simp [h])).swap
theorem eX(h:AT E Q e (x9::x0::x1::x2::x3::x4::x5::x6::x7::x8::O) G):AT E Q e (x0::x1::x2::x3::x4::x5::x6::x7::x8::x9::O) G:=fun a w S st=>h a w S (st.own_map FJ)
theorem y7(h:LG E Q c (x9::x0::x1::x2::x3::x4::x5::x6::x7::x8::O) G):LG E Q c (x0::x1::x2::x3::x4::x5::x6::x7::x8::x9::O) G:=fun a w S st=>h a w S (st.own_map FJ)
end

theorem mM(h:xs.set i y=zs):zs.length=xs.length:=by rw [←h,Gy]
section
theorem iZ{m:Nat}(hl:m=n)(s:Nat)(hs:dm G s=some (tV (bc l cap n)))(k:RG E ops Q rest O ((s,tV (bc l cap m))::G)):RG E ops Q rest O G:=by
 subst hl
 exact fun a w S st=>k a w S (st.cons (st.facts.at_ s _ hs))
end

theorem vJ{o1 o2:Nat}{g1:α→β}{g2:β→γ}(h1:pY r o1 q g1)(h2:pY q o2 s g2)(hb:Nat.ble (o2+s.sz) q.sz=true:=by rfl):pY r (o1+o2) s (fun x=>g2 (g1 x)):=fun S cs x h=>by
 have h3:=h2 S _ _ (h1 S cs x h)
 have hb' :=oP hb
 rwa [wX,za,oO,AG (by omega)]at h3
theorem GR{o1 o2:Nat}{g1:α→β}{u1:α→β→α}{u2:β→γ→β}(h1:pY r o1 q g1)(k1:j5 r o1 q u1)(k2:j5 q o2 s u2)(hb:Nat.ble (o2+s.sz) q.sz=true:=by rfl)(hc:Nat.ble (o1+q.sz) r.sz=true:=by rfl):
  j5 r (o1+o2) s (fun x y=>u1 x (u2 (g1 x) y)):=fun S cs x ds y h hy=>by
 have hb' :=oP hb
 have hc' :=oP hc
 have hl:=r.len h
 have h3:=k1 S cs x _ _ h (k2 S _ _ ds y (h1 S cs x h) hy)
 have e:cs.take (o1+o2)++ds++cs.drop (o1+o2+s.sz)=cs.take o1++(((cs.drop o1).take q.sz).take o2++ds++((cs.drop o1).take q.sz).drop (o2+s.sz))++cs.drop (o1+q.sz):=by
  rw [za,AG (by omega),wX,oO,List.take_add,show o1+(o2+s.sz)=o1+o2+s.sz from by omega]
  simp only [jO]
  congr 3
  have e2:cs.drop (o1+q.sz)=(cs.drop (o1+o2+s.sz)).drop (q.sz-(o2+s.sz)):=by rw [oO];congr 1;omega
  rw [e2,ut]
 rw [e];exact h3

def dl(P:Program)(f:FuncId)(ts:List Ty)(O1:List OE){ι:Type}(t:ι→Ty)(O2:ι→List OE):Prop:=
 ∀w S vs,jL w S→xl S ts vs→cZ 0 p7 w S O1→Calls P f vs.toArray w fun en w' => ∃i v S',en= .returned v∧(t i).p S' v∧gz (fun k=> ∃f∈O1,f.fp k) w S w' S' ∧jL w' S' ∧cZ 0 p7 w' S' (O2 i)∧ ∀k,(∃f∈O2 i,f.fp k)→(∃f∈O1,f.fp k)∨w.heap.size≤k
def SJ(E:En)(O1:List OE){ι:Type}(t:ι→Ty)(O2:ι→List OE):Ending→World→Prop:=fun en w' =>
 ∃i v S',en= .returned v∧(t i).p S' v∧gz E.B E.w0 E.S0 w' S' ∧jL w' S' ∧cZ 0 p7 w' S' (O2 i)∧ ∀k,(∃f∈O2 i,f.fp k)→(∃f∈O1,f.fp k)∨E.w0.heap.size≤k
def An(O1:List OE):Nat→Prop:=fun k=> ∃f∈O1,f.fp k
theorem dl.of{t:ι→Ty}(hf:P.funcs[f]? =some fn)(hb:fn.body=some c)(hN:fn.ntmps=N)(hn:Nat.ble ts.length N=true)(h: ∀w0 S0,CG ⟨P,⟨N,[]⟩,An O1,w0,S0,none⟩ (bodyPost P fn (SJ ⟨P,⟨N,[]⟩,An O1,w0,S0,none⟩ O1 t O2)) c O1 (tX 0 ts)):dl P f ts O1 t O2:=by
 subst hN
 intro w S vs hs hv ho
 exact j4.1 (D6 (F:=fw none) (n:=0) hf hb trivial (h w S _ w S ⟨gz.refl _ _ _,hs,kP ho fun f hf k hk=> .inr ⟨f,hf,hk⟩,mV hv _ (oP hn)⟩))
theorem Pd{t:ι→Ty}{v:Value}(st:St E O G a w S)(hB:E.B=An O1)(i:ι)(hO:O=O2 i)(hv:(t i).p S v):SJ E O1 t O2 (.returned v) w:=by
 subst hO
 refine⟨i,v,S,rfl,hv,st.ext,st.sat,st.own.weak,fun k ⟨f,hf,hk⟩=>?_⟩
 rcases(cZ.mem st.own f hf).2 k hk with h|h
 ·exact .inr h
 ·rw [hB]at h;exact .inl h
section
variable{t:ι→Ty}
theorem nv{k:Nat}{u:Ty}(hr:fn.results= #[.tmp k])(i:ι)(hO:O=O2 i)(hk:dm G k=some u)(hu: ∀S v,u.p S v→(t i).p S v):
  AT ⟨P,⟨N,[]⟩,An O1,w0,S0,none⟩ (bodyPost P fn (SJ ⟨P,⟨N,[]⟩,An O1,w0,S0,none⟩ O1 t O2)) .ret O G:=fun _ _ S st=>
 ⟨st.facts.defers,_,nj P fn k hr _ _,Pd st rfl i hO (hu S _ (st.facts.at_ k u hk))⟩
end
theorem BR: ∀{O1 O2:List OE},cZ base B w S O1→cZ base B w S O2→(∀e∈O1,∀f∈O2,e.apart f)→cZ base B w S (O1++O2)
 |[],_,_,h,_=>h
 |e::O1,O2,⟨h1,h2,h3⟩,h,ha=>⟨h1,fun f hf=>(AF.1 hf).elim (h2 f) (ha e (lb ..) f),BR h3 h fun g hg f hf=>ha g (lc _ hg) f hf⟩
section
variable{ty:TypeId}
theorem St.turn{Or O2:List OE}(st:St E (O1++Or) G a w S)(hx:gz (fun k=> ∃f∈O1,f.fp k) w S w' S')(hs:jL w' S')(ho:cZ 0 p7 w' S' O2)(hn: ∀k,(∃f∈O2,f.fp k)→(∃f∈O1,f.fp k)∨w.heap.size≤k):St E (O2++Or) G a w' S' :=by
 obtain⟨h1,h2,h3⟩:=nK st.own
 have hbl:=st.base_le
 refine⟨st.ext.step hx (fun b ⟨f,hf,hb⟩=>(cZ.mem h1 f hf).2 b hb),hs,BR (kP ho fun f hf k hk=>?_) (h2.ext hx fun f hf b hb ⟨g,hg,hgb⟩=>h3 g hg f hf b hgb hb) (fun e he f hf b heb hfb=>?_),st.facts.mono hx.keep⟩
 ·rcases hn k ⟨f,hf,hk⟩with⟨g,hg,hgk⟩|h
  ·exact(cZ.mem h1 g hg).2 k hgk
  ·exact .inl (zp hbl h)
 ·rcases hn b ⟨e,he,heb⟩with⟨g,hg,hgb⟩|h
  ·exact h3 g hg f hf b hgb hfb
  ·have:=f.here (cZ.mem h2 f hf).1 b hfb
   omega
theorem BQ{xs:List Operand}(O1 Or:List OE){t:ι→Ty}(hO:O=O1++Or)(hc:an E.P f=true)(hs:dl E.P f ts O1 t O2)(hx:j6 E.N G xs ts)(hd:Nat.blt d E.N.n=true)(k: ∀i,RG E ops Q rest (O2 i++Or) ((d,t i)::G)):
  RG E ops Q (⟨some d,.call ⟨.value (.func f),xs.toArray,ats⟩,ty,pos,after,none⟩::rest) O G:= .of rfl fun a w S st=>by
 subst hO
 have hr:(execOp a.eval ⟨some d,.call ⟨.value (.func f),xs.toArray,ats⟩,ty,pos,after,none⟩).run E.P w= .ok (.enter f (xs.map a.eval).toArray) w:=by
  simp [execOp,resolve,Act.eval,Deferred.ofValue,invoke,eU hc]
 refine⟨fun c h=>(by cases h),?_⟩
 rw [hr]
 refine(hs w S _ st.sat (hx.tys st.facts) (nK st.own).1.weak).mono fun en w' ⟨i,v,S',he,hv,h1,h2,h3,h4⟩=>⟨_,he,?_⟩;exact k i _ _ S' ((st.turn h1 h2 h3 h4).put hd hv)
end

structure OI where
 h:Nat→Option Nat×Nat:=fun _=>(none,0)
 os:List (Option Nat×Nat):=[]
 fp:Nat→Prop:=p7
 v:Value:=undef
 ng:Nat→(Option Nat×Nat)×(Nat→Option Nat×Nat):=fun _=>((none,0),fun _=>(none,0))
def pj:OI:={}
def oi(l:Option Nat)(c:Nat):OI:={h:=fun _=>(l,c)}
def EffOK(E:En)(O:List OE)(need:lW)(o:Oper)(post:OI→List OE)(t:OI→Ty):Prop:=
 ∀a w S,jL w S→cZ E.base E.B w S O→di E.N S a need→E.base≤w.heap.size→
  Kt E.P o a w (fun a' w' => ∃v S' x,a' =a.put o.dst v∧gz (An O) w S w' S' ∧jL w' S' ∧cZ E.base E.B w' S' (post x)∧(t x).p S' v)
variable{post:OI→List OE}{t' :TypeId}
section
variable{ty:TypeId}
theorem Nq{y:Operand}{u:OI→Ty}(ti:TI E.P T sz bytes agg z)(hsz:r.sz=sz)(hz:Nat.beq z.length sz=true)(h0:Nat.blt 0 sz=true)(h128:Nat.ble bytes 2048=true)(ht:E.P.underlying t=some (.slice T))(hx:aO E.N G x (tV (bc l cap n)))(hy: ∀a w S,jL w S→di E.N S a G→ ∃news,Src E.P r.sz t' (a.eval y) ys.length news w∧u9 r S news ys)(happ:app xs ys=some zs)(hu: ∀l' cap' w0 S,(mB mm r T l' cap' zs).p w0 S→(u (oi l' cap')).p S (bc l' cap' zs.length))(hn:n=xs.length):
  EffOK E (mB mm r T l cap xs::O) G ⟨some d,.call ⟨.builtin .append,#[x,y],#[t,t']⟩,ty,pos,after,g⟩ (fun i=>mB mm r T (i.h 0).1 (i.h 0).2 zs::O) u:=fun a w S hs ho hf hb=>by
 subst hn
 have h1:a.eval x=bc l cap xs.length:=hx S a hf
 obtain⟨news,h2,h3⟩:=hy a w S hs hf
 obtain⟨l',cap',w',S',hr,hext,hsat,hh,hnew⟩:=xL (ty:=ty) ti hsz hz h0 h128 ht hs ho.1 hb h2 h3 happ
 have hrun:(execOp a.eval ⟨some d,.call ⟨.builtin .append,#[x,y],#[t,t']⟩,ty,pos,after,g⟩).run E.P w= .ok (.value (bc l' cap' zs.length)) w' :=by
  simp [execOp,resolve,invoke,builtin,h1,hr]
 refine⟨fun c h=>(by cases h),?_⟩
 rw [hrun]
 refine⟨_,S',oi l' cap',rfl,hext.more fun b hb=>⟨_,lb ..,hb⟩,hsat,⟨hh,fun f hf b hb hfb=>?_,ho.2.2.ext hext fun f hf b hb hbl=>ho.2.1 f hf b hbl hb⟩,hu l' cap' w' S' hh.1⟩
 rcases hnew b hb with h|h
 ·exact ho.2.1 f hf b h hfb
 ·have:=f.here (cZ.mem ho.2.2 f hf).1 b hfb
  omega
theorem uQ{y:Operand}(ti:TI E.P T sz bytes agg z)(hsz:r.sz=sz)(hz:Nat.beq z.length sz=true)(h0:Nat.blt 0 sz=true)(h128:Nat.ble bytes 2048=true)(ht:E.P.underlying t=some (.slice T))(ht' :t' =t)(hx:aO E.N G x (tO r l cap xs))(hy:aO E.N G y (tD (ik r) ys))(happ:app xs ys=some zs):
  EffOK E (ez r T l cap xs::O) G ⟨some d,.call ⟨.builtin .append,#[x,y],#[t,t']⟩,ty,pos,after,g⟩ (fun i=>ez r T (i.h 0).1 (i.h 0).2 zs::O) (fun i=>tO r (i.h 0).1 (i.h 0).2 zs):=by
 subst ht'
 exact Nq ti hsz hz h0 h128 ht (Mm hx) (fun a w S hs hf=>xH ht hs (hy S a hf)) happ (fun _ _ _ _ h=>⟨rfl,qe h⟩) rfl
theorem Qz{xs:List Operand}{u:OI→Ty}(hc:an E.P f=true)(hs:gA E.P f ts mm r T ys)(hx:j6 E.N G xs ts)(hu: ∀l cap w0 S,(mB mm r T l cap ys).p w0 S→(u (oi l cap)).p S (bc l cap ys.length)):
  EffOK E O G ⟨some d,.call ⟨.value (.func f),xs.toArray,ats⟩,ty,pos,after,g⟩ (fun i=>mB mm r T (i.h 0).1 (i.h 0).2 ys::O) u:=fun a w S hsat ho hf hb=>by
 have hr:(execOp a.eval ⟨some d,.call ⟨.value (.func f),xs.toArray,ats⟩,ty,pos,after,g⟩).run E.P w= .ok (.enter f (xs.map a.eval).toArray) w:=by
  simp [execOp,resolve,Act.eval,Deferred.ofValue,invoke,eU hc]
 refine⟨fun c h=>(by cases h),?_⟩
 rw [hr]
 exact(hs w S _ hsat (hx.tys hf)).mono fun e w' ⟨l,cap,S',he,h1,h2,h3⟩=>⟨_,he,_,S',oi l cap,rfl,h1.more fun _ hb=>hb.elim,h2,qn ho h1 h3.1 (fun b hb=>(h3.2 b hb).resolve_right id) hb,hu l cap w' S' h3.1⟩
theorem cZ.turn{Or O2:List OE}(h:cZ base B w S (O1++Or))(hbl:base≤w.heap.size)(hx:gz (An O1) w S w' S')(ho:cZ 0 p7 w' S' O2)(hn: ∀k,(∃f∈O2,f.fp k)→(∃f∈O1,f.fp k)∨w.heap.size≤k):cZ base B w' S' (O2++Or):=by
 obtain⟨h1,h2,h3⟩:=nK h
 refine BR (kP ho fun f hf k hk=>?_) (h2.ext hx fun f hf b hb ⟨g,hg,hgb⟩=>h3 g hg f hf b hgb hb) (fun e he f hf b heb hfb=>?_)
 ·rcases hn k ⟨f,hf,hk⟩with⟨g,hg,hgk⟩|h
  ·exact(cZ.mem h1 g hg).2 k hgk
  ·exact .inl (zp hbl h)
 ·rcases hn b ⟨e,he,heb⟩with⟨g,hg,hgb⟩|h
  ·exact h3 g hg f hf b hgb hfb
  ·have:=f.here (cZ.mem h2 f hf).1 b hfb
   omega
theorem Qy{xs:List Operand}(O1 Or:List OE){t:OI→Ty}{O2:OI→List OE}(hO:O=O1++Or)(hc:an E.P f=true)(hs:dl E.P f ts O1 t O2)(hx:j6 E.N G xs ts)(hpost: ∀i,O2 i++Or=post i):
  EffOK E O G ⟨some d,.call ⟨.value (.func f),xs.toArray,ats⟩,ty,pos,after,g⟩ post t:=fun a w S hsat ho hf hb=>by
 subst hO
 obtain rfl:(fun i=>O2 i++Or)=post:=funext hpost
 have hr:(execOp a.eval ⟨some d,.call ⟨.value (.func f),xs.toArray,ats⟩,ty,pos,after,g⟩).run E.P w= .ok (.enter f (xs.map a.eval).toArray) w:=by
  simp [execOp,resolve,Act.eval,Deferred.ofValue,invoke,eU hc]
 refine⟨fun c h=>(by cases h),?_⟩
 rw [hr]
 exact(hs w S _ hsat (hx.tys hf) (nK ho).1.weak).mono fun en w' ⟨i,v,S',he,hv,h1,h2,h3,h4⟩=>⟨_,he,v,S',i,rfl,h1.more fun b ⟨f,hf,hb⟩=>⟨f,GF _ hf,hb⟩,h2,cZ.turn ho hb h1 h3 h4,hv⟩
theorem Av{op:Op}{t:OI→Ty}(h:EffOK E O G ⟨some d,op,ty,pos,after,none⟩ post t)(hd:Nat.blt d E.N.n=true)(k: ∀x:OI,RG E ops Q rest (post x) ((d,t x)::G)):RG E ops Q (⟨some d,op,ty,pos,after,none⟩::rest) O G:= .of rfl fun a w S st=>
 oC (fun a' w' ⟨v,S',x,ha,hx,hs,ho,hv⟩=>by
  subst ha
  exact k x _ _ S' ⟨st.ext.step hx fun b ⟨f,hf,hb⟩=>(cZ.mem st.own f hf).2 b hb,hs,ho,(st.facts.mono hx.keep).put hd hv⟩) (h a w S st.sat st.own st.facts st.base_le)
end

def Mg(σ:Nat→OI)(k:Nat)(x:OI):Nat→OI:=fun j=>bif Nat.beq j k then x else σ j
theorem Q7(σ:Nat→OI)(k:Nat)(x:OI):Mg σ k x k=x:=by simp [Mg]
theorem Eh(σ:Nat→OI){k j:Nat}(x:OI)(h:j≠k):Mg σ k x j=σ j:=by
 have:Nat.beq j k=false:=by
  cases hb:Nat.beq j k with
  |false=>rfl
  |true=>exact absurd (oV hb) h
 simp [Mg,this]
structure NE where
 slot:Nat
 ty:(Nat→OI)→Ty
 src:Option Nat
def acz(G:lW)(ts:List (OI→Ty))(n:NE):Prop:=
 match n.src with
 |some j=> ∀σ,(ts[j]?).map (fun f=>f (σ j))=some (n.ty σ)
 |none=> ∀σ,dm G n.slot=some (n.ty σ)
def Py(G:lW)(ts:List (OI→Ty)):List NE→Prop
 |[]=>True
 |n::l=>acz G ts n∧Py G ts l
theorem Py.mem{ts:List (OI→Ty)}: ∀{l:List NE},Py G ts l→ ∀n∈l,acz G ts n
 |_::_,⟨h,_⟩,_,.head _=>h
 |_::_,⟨_,h⟩,_,.tail _ hm=>Py.mem h _ hm
def qJ(E:En)(ops:Array Oper)(O:List OE)(need:lW)(o:Oper)(post:OI→List OE)(t:OI→Ty):Prop:=
 ∀a w S,jL w S→cZ E.base E.B w S O→di E.N S a need→E.base≤w.heap.size→
  if Region.wanted o (yielded ops a.tmps)then Kt E.P o a w (fun a' w' => ∃v S' x,a' =a.put o.dst v∧gz (An O) w S w' S' ∧jL w' S' ∧cZ E.base E.B w' S' (post x)∧(t x).p S' v)
  else∃x,cZ E.base E.B w S (post x)∧(t x).p S undef
theorem eF{need:lW}{t:OI→Ty}(hg:o.guard=none)(h:EffOK E O need o post t):qJ E ops O need o post t:=fun a w S hs ho hf hb=>by
 have:Region.wanted o (yielded ops a.tmps)=true:=by unfold Region.wanted;rw [hg]
 rw [this,bk rfl]
 exact h a w S hs ho hf hb
def gV(es:List Bool)(i:Nat):Nat:=(es.take i).countP (· ==true)
def Nw(L:List Oper)(es:List Bool):Bool:=(List.range es.length).all fun i=>(List.range i).all fun j=> !((es[i]?).getD false&&(es[j]?).getD false)||nM L L.length i j
structure DJE(E:En)(G:lW)(l:List Oper)(ts:List (OI→Ty))(Om:Nat→(Nat→OI)→List OE)(es:List Bool)(done:Array Bool)(a:Act)(w:World)(S:SH)(σ:Nat→OI)(c:Nat):Prop where
 ext:gz E.B E.w0 E.S0 w S
 sat:jL w S
 own:cZ E.base E.B w S (Om c σ)
 size:a.tmps.size=E.N.n
 defers:a.defers=E.N.ds
 dsz:done.size=l.length
 down: ∀j o,l[j]? =some o→done.getD j false=true→ ∀e∈o.after,Region.binds .any e=true→done.getD e.on false=true
 old: ∀k t,dm G k=some t→(∀j o,l[j]? =some o→done.getD j false=true→o.dst≠some k)→t.p S (a.tmps.getD k undef)
 new: ∀j o d f,l[j]? =some o→done.getD j false=true→o.dst=some d→ts[j]? =some f→(f (σ j)).p S (a.tmps.getD d undef)
 chain: ∀k,es[k]? =some true→(done.getD k false=true↔gV es k<c)
variable{es:List Bool}
theorem FD: ∀{i j:Nat},i<j→es[i]? =some true→gV es i<gV es j:=by
 induction es with
 |nil=>intro i j _ h;simp at h
 |cons e es ih=>
  intro i j hij h
  cases j with
  |zero=>omega
  |succ j=>
   cases i with
   |zero=>simp at h;subst h;simp [gV]
   |succ i=>
    have:=ih (i:=i) (j:=j) (by omega) (by simpa using h)
    cases e<;>simp [gV]at this ⊢ <;>omega
theorem wQ: ∀{c k:Nat},c<gV es k→ ∃i,i<k∧es[i]? =some true∧gV es i=c:=by
 induction es with
 |nil=>intro c k h;simp [gV]at h
 |cons e es ih=>
  intro c k h
  cases k with
  |zero=>simp [gV]at h
  |succ k=>
   cases e with
   |false=>
    obtain⟨i,h1,h2,h3⟩:=ih (c:=c) (k:=k) (by simpa [gV] using h)
    exact⟨i+1,by omega,by simpa using h2,by simpa [gV] using h3⟩
   |true=>
    cases c with
    |zero=>exact⟨0,by omega,rfl,by simp [gV]⟩
    |succ c=>
     obtain⟨i,h1,h2,h3⟩:=ih (c:=c) (k:=k) (by simp [gV]at h ⊢;omega)
     exact⟨i+1,by omega,by simpa using h2,by simp [gV]at h3 ⊢;omega⟩
section
variable{ts:List (OI→Ty)}{Om:Nat→(Nat→OI)→List OE}
theorem DJE.step{σ:Nat→OI}{c c' :Nat}(h:DJE E G L ts Om es done a w S σ c){f:OI→Ty}{v:Value}{x:OI}{C:Nat→Prop}(hi:L[i]? =some o)(hd:o.dst=some d)(hdN:d<E.N.n)(hs2: ∀j p,L[j]? =some p→done.getD j false=true→p.dst=some d→i=j)(hwait: ∀e∈o.after,Region.binds .any e=true→done.getD e.on false=true)(ht:ts[i]? =some f)(hun:done.getD i true=false)(hext:gz C w S w' S')(hC: ∀b,C b→E.base≤b∨E.B b)(hsat:jL w' S')(hown:cZ E.base E.B w' S' (Om c' (Mg σ i x)))(hv:(f x).p S' v)(hch: ∀k,es[k]? =some true→((done.setIfInBounds i true).getD k false=true↔gV es k<c')):
  DJE E G L ts Om es (done.setIfInBounds i true) (a.put o.dst v) w' S' (Mg σ i x) c' :=by
 have hda:d<a.tmps.size:=by rw [h.size];exact hdN
 have hlt:i<done.size:=by rw [h.dsz];exact(jP.1 hi).1
 have hset: ∀j,(done.setIfInBounds i true).getD j false=true→j=i∨done.getD j false=true:=fun j hj=>by
  by_cases hij:i=j
  ·exact .inl hij.symm
  ·rw [vk false hij]at hj;exact .inr hj
 have hseti:(done.setIfInBounds i true).getD i false=true:=by simp [hlt]
 have hun' :done.getD i false=false:=by simp [hlt]at hun ⊢;exact hun
 refine⟨h.ext.step hext hC,hsat,hown,?_,?_,by simp [h.dsz],fun j p hj hdone e he hb=>?_,fun k u hk hno=>?_,fun j p d' u hj hdone hd' hu=>?_,hch⟩
 ·rw [hd];simp [Act.put,h.size]
 ·rw [hd];exact h.defers
 ·rcases hset j hdone with rfl|hj'
  ·rw [hi]at hj
   have:o=p:=by simpa using hj
   subst this
   exact vZ (hwait e he hb)
  ·exact vZ (h.down j p hj hj' e he hb)
 ·have hne:d≠k:=fun e=>hno i o hi hseti (by rw [hd,e])
  rw [hd,rD hda,aX hne]
  exact u.mono hext.keep (h.old k u hk fun j p hj hdone=>hno j p hj (vZ hdone))
 ·rw [hd,rD hda]
  by_cases hij:j=i
  ·subst hij
   rw [hi]at hj
   have:o=p:=by simpa using hj
   subst this
   rw [hd]at hd'
   have:d=d' :=by simpa using hd'
   subst this
   rw [bk rfl]
   rw [ht]at hu
   have:f=u:=by simpa using hu
   subst this
   rw [Q7]
   exact hv
  ·have hj' :=(hset j hdone).resolve_left hij
   have hne:d≠d' :=fun e=>by
    subst e
    have:=hs2 j p hj hj' hd'
    exact hij this.symm
   rw [aX hne,Eh σ x hij]
   exact Ty.mono _ hext.keep (h.new j p d' u hj hj' hd' hu)
end

section
variable{ty:TypeId}
theorem te(ht:E.P.underlying t=some (.slice e))(hx:aO E.N G x (tV (.slice none 0 0))):bZ E O G ⟨dst,.call ⟨.builtin .len,#[x],#[t]⟩,ty,pos,after,g⟩ (tD (rI .i64) (0:Int)):=
 .of_pure fun a w S _ _ hf=>by
  have h1:a.eval x= .slice none 0 0:=hx S a hf
  refine⟨.int .i64 0,?_,cY.2 rfl⟩
  simp [execOp,resolve,invoke,builtin,Builtin.len_,lF ht,h1,goInt]
theorem tf(ht:E.P.underlying t=some (.slice e))(hx:aO E.N G x (tV (.slice none 0 0))):bZ E O G ⟨dst,.call ⟨.builtin .cap,#[x],#[t]⟩,ty,pos,after,g⟩ (tD (rI .i64) (0:Int)):=
 .of_pure fun a w S _ _ hf=>by
  have h1:a.eval x= .slice none 0 0:=hx S a hf
  refine⟨.int .i64 0,?_,cY.2 rfl⟩
  simp [execOp,resolve,invoke,builtin,Builtin.cap_,lF ht,h1,goInt]
theorem xU{hi:Operand}(ht:E.P.underlying t=some (.slice T))(ti:TI E.P T sz bytes agg z)(hx:aO E.N G x (tV (.slice none 0 0)))(hhi:aO E.N G hi (tD (rI k) (0:Int))):
  bZ E O G ⟨dst,.slice t x none (some hi) none,ty,pos,after,g⟩ (tV (.slice none 0 0)):=
 .of_pure fun a w S _ _ hf=>by
  have h1:a.eval x= .slice none 0 0:=hx S a hf
  have h6:=cY.1 (hhi S a hf)
  refine⟨.slice none 0 0,?_,rfl⟩
  have hb:=mb (P:=E.P) (w:=w) (k:=k) (n:=(0:Int)) (y:=0) (code:= .sliceAcap) (by omega) (by omega)
  simp [execOp,Instr.sliceAt,h1,h6,Instr.slice,lF ht,Instr.sliceBounds,hb,mb (k:=k) (n:=(0:Int)) (y:=0) (by omega) (by omega),ti.sizeOf]
end

def nR{α:Type}(n:Int)(z:α):Option (List α):=if 0≤n∧n≤68719476736 then some (List.replicate n.toNat z)else none
theorem xC{n:Int}{z:α}(h:nR n z=some zs): ∃m:Nat,n=m∧m≤68719476736∧zs=List.replicate m z:=by
 unfold nR at h
 split at h
 ·rename_i hc;exact⟨n.toNat,by omega,by omega,by simpa using h.symm⟩
 ·cases h
theorem vA{α:Type}{r:Rp α}{x:α}{z:List Value}(hx: ∀S,r.rc S z x)(S:SH): ∀n:Nat,u9 r S (List.replicate n z).flatten (List.replicate n x)
 |0=>rfl
 |n+1=>⟨z,_,by rw [List.replicate_succ,List.flatten_cons],hx S,vA hx S n⟩
theorem EM(z:List Value):(List.range z.length).map (fun i=>z[i%z.length]?.getD default)=z:=by
 apply Jt
 intro k
 rcases nL k z.length with h|h
 ·rw [CT,List.getElem?_range h]
  simp [CS h,h]
 ·rw [D9 (by simpa using h),D9 h]
theorem oz(z:List Value)(n:Nat):(Builtin.zeroCells z.toArray n).toList=(List.replicate n z).flatten:=by
 unfold Builtin.zeroCells
 simp
 induction n with
 |zero=>simp
 |succ n ih=>
  rw [List.replicate_succ,List.flatten_cons,←ih,CN,Nat.add_comm,List.range_add,List.map_append,EM,List.map_map]
  congr 1
  apply Ju
  intro i _
  simp
theorem vF(z:List Value)(n sz:Nat)(h:z.length=sz):(madeCells z.toArray (n*sz)).toList=(List.replicate n z).flatten:=by
 subst h
 have:=oz z n
 unfold Builtin.zeroCells at this
 unfold madeCells
 simpa using this
section
variable{ty:TypeId}
theorem flat_len(h:z.length=sz)(n:Nat):(List.replicate n z).flatten.length=n*sz:=by
 simp [h]
theorem SM{x:α}{n:Int}{y y' :Operand}(ti:TI E.P T sz bytes agg z)(hsz:r.sz=sz)(hz:Nat.beq z.length sz=true)(h128:Nat.ble bytes 2048=true)(ht:E.P.underlying t=some (.slice T))(hx: ∀S,r.rc S z x)(hy:aO E.N G y (tD (rI k) n))(hy' :aO E.N G y' (tD (rI k') n))(h:nR n x=some zs):
  EffOK E O G ⟨some d,.makeSlice t y y',ty,pos,after,g⟩ (fun i=>fL r T (i.h 0).1 (i.h 0).2 zs::O) (fun i=>tV (bc (i.h 0).1 (i.h 0).2 zs.length)):=fun a w S hs ho hf hb=>by
 subst hsz
 obtain⟨i,zv,hi,h1,h2,h3,h4⟩:=ti.get
 obtain⟨m,rfl,hm,rfl⟩:=xC h
 have hyv:=cY.1 (hy S a hf)
 have hyv' :=cY.1 (hy' S a hf)
 have hz2:z.length=r.sz:=oV hz
 have h128' :=oP h128
 have hbytes:(i.bytes:Int)*(m:Int)≤281474976710656:=by
  have:i.bytes*m≤2048*68719476736:=xe (by omega) hm
  have h5:((i.bytes*m:Nat):Int)≤281474976710656:=by omega
  rwa [xx]at h5
 have hr:=run_make (P:=E.P) w t T i zv ht hi h3 k k' (m:Int) (m:Int) (by omega) (Int.le_refl _) hbytes (by omega)
 rw [AH,h1,h4]at hr
 obtain⟨he,hs',hno⟩:=gy (w:=w) (.cells (madeCells z.toArray (m*r.sz)) T (0,0)) hs
 have hrun:(execOp a.eval ⟨some d,.makeSlice t y y',ty,pos,after,g⟩).run E.P w= .ok (.value (.slice (some ⟨w.heap.size,0,none⟩) m m)) (w.alloc (.cells (madeCells z.toArray (m*r.sz)) T (0,0))):=by
  simp [execOp,hyv,hyv',hr]
 refine⟨fun c h=>(by cases h),?_⟩
 rw [hrun]
 have hfl:=flat_len hz2 m
 refine⟨_,S,oi (some w.heap.size) m,rfl,he.more fun _ hb=>hb.elim,hs',qn ho he (e:=fL r T (some w.heap.size) m (List.replicate m x)) ⟨(List.replicate m z).flatten,⟨_,xv w _,by simp,by simp only [maxLen];omega,by rw [size_madeCells],?_⟩,vA hx S m,fun b hb=>by rw [←p5 hb];exact hno⟩ (fun b hb=>AK (p5 hb)) hb,?_⟩
 ·rw [vF z m r.sz hz2,CW]
  exact sC (by omega)
 ·show _=bc _ _ _
  rw [CW];rfl
theorem yh{x:α}{n:Int}{s y:Operand}{kn:IntKind}(ti:TI E.P T sz bytes agg z)(hsz:r.sz=sz)(hz:Nat.beq z.length sz=true)(h0:Nat.blt 0 sz=true)(h128:Nat.ble bytes 2048=true)(ht:E.P.underlying t=some (.slice T))(ht' :E.P.underlying t' =some (.int kn))(hx: ∀S,r.rc S z x)(hs' :aO E.N G s (tV (.slice none 0 0)))(hy:aO E.N G y (tD (rI k) n))(hn:0<n)(h:nR n x=some zs):
  EffOK E O G ⟨some d,.call ⟨.builtin .append,#[s,y],#[t,t']⟩,ty,pos,after,g⟩ (fun i=>fL r T (i.h 0).1 (i.h 0).2 zs::O) (fun i=>tV (bc (i.h 0).1 (i.h 0).2 zs.length)):=fun a w S hs ho hf hb=>by
 subst hsz
 obtain⟨i,zv,hi,h1,h2,h3,h4⟩:=ti.get
 obtain⟨m,rfl,hm,rfl⟩:=xC h
 have hsv:a.eval s= .slice none 0 0:=hs' S a hf
 have hyv:=cY.1 (hy S a hf)
 have hz2:z.length=r.sz:=oV hz
 have h128' :=oP h128
 have h0' :0<r.sz:=by simpa [vY] using h0
 have hbytes:m*i.bytes≤281474976710656:=by
  have:m*i.bytes≤68719476736*2048:=xe hm (by omega)
  omega
 have hr:=Lib.run_append_nil_zeros (P:=E.P) w t t' ty T i zv k kn ht ht' hi h3 m (by omega) (by omega) (by omega) hbytes
 have hge:=grownCap_ge w m 0 T
 have hle:=grownCap_le_maxLen w m 0 T (by simp only [maxLen];omega)
 generalize grownCap w m 0 T=cp at hr hge hle
 obtain⟨C,hC⟩: ∃C,Builtin.zeroCells zv.cells m++Builtin.zeroCells zv.cells (cp-m)=C:=⟨_,rfl⟩
 rw [hC]at hr
 obtain⟨he0,hs0⟩:=yq (w:=w) hs
 obtain⟨he,hs2,hno⟩:=gy (w:=w.drew) (.cells C T (0,0)) hs0
 have hx2:gz p7 w S (w.drew.alloc (.cells C T (0,0))) S:=he0.trans he
 have hrun:(execOp a.eval ⟨some d,.call ⟨.builtin .append,#[s,y],#[t,t']⟩,ty,pos,after,g⟩).run E.P w= .ok (.value (.slice (some ⟨w.heap.size,0,none⟩) m cp)) (w.drew.alloc (.cells C T (0,0))):=by
  simp [execOp,resolve,invoke,builtin,hsv,hyv,hr]
 refine⟨fun c h=>(by cases h),?_⟩
 rw [hrun]
 have hfl:=flat_len hz2 m
 have hC1:C.toList=(List.replicate m z).flatten++(List.replicate (cp-m) z).flatten:=by
  rw [←hC,Array.toList_append,h4,oz,oz]
 refine⟨_,S,oi (some w.heap.size) cp,rfl,hx2.more fun _ hb=>hb.elim,hs2,qn ho hx2 (e:=fL r T (some w.heap.size) cp (List.replicate m x)) ⟨(List.replicate m z).flatten,⟨C,xv w.drew _,by simpa using hge,hle,?_,?_⟩,vA hx S m,fun b hb=>by rw [←p5 hb];exact hno⟩ (fun b hb=>AK (p5 hb)) hb,?_⟩
 ·have:C.toList.length=cp*r.sz:=by
   rw [hC1,jx,hfl,flat_len hz2,←uU];congr 1;omega
  simpa using this
 ·rw [hC1,CW,←hfl,List.take_left]
 ·show _=bc _ _ _
  rw [CW];rfl

theorem Hv{x:α}{y:Operand}(ti:TI E.P T sz bytes agg z)(hsz:r.sz=sz)(hz:Nat.beq z.length sz=true)(ht:E.P.underlying t=some (.slice T))(hx: ∀S,r.rc S z x)(hone:z.all (·.oneCell')=true)(hs:dP xs lo (xs.length:Int)=some ys)(hy:aO E.N G y (tV (oQ sz l cap lo.toNat ys.length)))(hzs:xs.take lo.toNat++List.replicate ys.length x=zs)(k:RG E ops Q rest (fL r T l cap zs::O) G):
  RG E ops Q (⟨none,.call ⟨.builtin .clear,#[y],#[t]⟩,ty,pos,after,none⟩::rest) (fL r T l cap xs::O) G:= .of rfl fun a w S st=>by
 subst hsz
 subst hzs
 obtain⟨i,zv,hi,h1,h2,h3,h4⟩:=ti.get
 have hyv:a.eval y=oQ r.sz l cap lo.toNat ys.length:=hy S a st.facts
 have hz2:z.length=r.sz:=oV hz
 obtain⟨lo',m,rfl,hm,h5,h6,rfl⟩:=ii hs
 have hm' :m=xs.length:=by omega
 subst hm'
 rw [xy]at hyv k
 rw [AH]at hyv k
 by_cases hnil:xs.drop lo' =[]
 ·have hlo:xs.length≤lo' :=HM.1 hnil
  rw [hnil]at hyv k
  have e1:xs.take lo' ++List.replicate ([]:List α).length x=xs:=by simp [sC hlo]
  rw [e1]at k
  have hrun:(execOp a.eval ⟨none,.call ⟨.builtin .clear,#[y],#[t]⟩,ty,pos,after,none⟩).run E.P w= .ok (.value (.tuple #[])) w:=by
   cases l<;>simp [execOp,resolve,invoke,builtin,Builtin.clear_,lF ht,hyv,oQ]
  refine⟨fun c h=>(by cases h),?_⟩
  rw [hrun]
  exact k _ _ S st
 ·obtain⟨⟨cells,hraw,hrc,hno⟩,hbase⟩:=st.own.1
  have hlt:lo' <xs.length:=by
   rcases nL lo' xs.length with h|h
   ·exact h
   ·exact absurd (Dp h) hnil
  cases l with
  |none=>have:=hraw.1;omega
  |some b=>
   obtain⟨cur,g1,g2,g3,g4,g5⟩:=hraw
   have hno' :S b=none:=hno b rfl
   have hne: ¬(cap=lo'):=by omega
   have hld:(xs.drop lo').length=xs.length-lo' :=by simp
   have hfl:=flat_len hz2 (xs.length-lo')
   have hones: ∀u∈(List.replicate (xs.length-lo') z).flatten,u.oneCell' =true:=by
    intro u hu
    obtain⟨q,hq,hu⟩:=List.mem_flatten.1 hu
    rw [(List.mem_replicate.1 hq).2]at hu
    exact ki.1 hone u hu
   have hmul:xs.length*r.sz≤cur.size:=by rw [g4];exact zd _ g2
   have hfit:lo' *r.sz+(xs.length-lo')*r.sz=xs.length*r.sz:=by rw [←uU];congr 1;omega
   have hst:=run_storeCells_at E.P b (lo' *r.sz) T (List.replicate (xs.length-lo') z).flatten 0 cur w g1 (by omega) hones
   simp only [y9]at hst
   have hrun:(execOp a.eval ⟨none,.call ⟨.builtin .clear,#[y],#[t]⟩,ty,pos,after,none⟩).run E.P w= .ok (.value (.tuple #[])) (w.setRow b (cur.toList.take (lo' *r.sz)++(List.replicate (xs.length-lo') z).flatten++cur.toList.drop (lo' *r.sz+(List.replicate (xs.length-lo') z).flatten.length)).toArray):=by
    have e1: ∃q,xs.length-lo' =q+1:=⟨xs.length-lo' -1,by omega⟩
    obtain⟨q,hq⟩:=e1
    have e2:a.eval y= .slice (some ⟨b,lo' *r.sz,none⟩) (q+1) (cap-lo'):=by rw [hyv,hld,hq];simp [oQ,hne]
    rw [hq]at hst ⊢
    simp [execOp,resolve,invoke,builtin,Builtin.clear_,lF ht,e2,zeroValue,typeInfo,hi,h3,h4,oz,hst]
   refine⟨fun c h=>(by cases h),?_⟩
   rw [hrun]
   have hset:=setRow_heap w b cur (cur.toList.take (lo' *r.sz)++(List.replicate (xs.length-lo') z).flatten++cur.toList.drop (lo' *r.sz+(List.replicate (xs.length-lo') z).flatten.length)).toArray T _ g1
   have hl2:(xs.take lo' ++List.replicate (xs.drop lo').length x).length=xs.length:=by simp;omega
   have hsp:u9 r S (cells.take (lo' *r.sz)) (xs.take lo'):=by
    have e:xs=xs.take lo' ++xs.drop lo' :=(ut _ _).symm
    rw [e]at hrc
    have:=(q7 hrc).1
    rwa [show(xs.take lo').length=lo' from by simp;omega]at this
   have hcl:((cur.toList.take (lo' *r.sz)++(List.replicate (xs.length-lo') z).flatten++cur.toList.drop (lo' *r.sz+(List.replicate (xs.length-lo') z).flatten.length)).toArray).toList.take ((xs.take lo' ++List.replicate (xs.drop lo').length x).length*r.sz)=cells.take (lo' *r.sz)++(List.replicate (xs.length-lo') z).flatten:=by
    rw [hl2,←g5,za,AG (zd _ (by omega))]
    have hlen1:(cur.toList.take (lo' *r.sz)++(List.replicate (xs.length-lo') z).flatten).length=xs.length*r.sz:=by
     rw [jx,hfl,CR,D8,AG (by omega)];exact hfit
    rw [←hlen1,List.take_left]
   obtain⟨q1,q2,q3⟩:=pS (O:=O) st.sat (fL r T (some b) cap xs) (fL r T (some b) cap (xs.take lo' ++List.replicate (xs.drop lo').length x)) st.own (fun k=>⟨fun h=>(p5 h).symm,fun h=>by rw [h];rfl⟩) (fun k=>⟨fun h=>(p5 h).symm,fun h=>by rw [h];rfl⟩)
    (w' :=w.setRow b (cur.toList.take (lo' *r.sz)++(List.replicate (xs.length-lo') z).flatten++cur.toList.drop (lo' *r.sz+(List.replicate (xs.length-lo') z).flatten.length)).toArray) ⟨rfl,rfl,rfl,by simp [World.setRow],dY _⟩ (fun k hk=>setRow_other w b k _ hk)
    ⟨cells.take (lo' *r.sz)++(List.replicate (xs.length-lo') z).flatten,⟨_,hset,by rw [hl2];exact g2,g3,by simp only [GC,jx,CR,D7,D8];omega,hcl⟩,by rw [hld];exact wx hsp (vA hx S _),fun k hk=>by rw [←p5 hk];exact hno'⟩ hno'
   ·exact k _ _ S ⟨st.ext.step q1 (fun c hc=>hbase c (by rw [hc];rfl)),q2,q3,st.facts⟩
end

def n8{α:Type}(r:Rp α)(n:Nat):Rp (List α) where
 sz:=n*r.sz
 agg:=true
 rc:=fun S cs xs=>xs.length=n∧u9 r S cs xs
 mono:=fun h ⟨h1,h2⟩=>⟨h1,tP h h2⟩
 len:=fun⟨h1,h2⟩=>by rw [pb h2,h1]
 one:=fun⟨_,h2⟩=>DH h2
 sc:=fun h=>by cases h
section
section
variable{ty:TypeId}
theorem ek{i:Int}(ht:E.P.underlying t=some (.array n e))(ti:TI E.P e sz bytes agg z)(hsz:r.sz=sz)(hx:aO E.N G x (bN (n8 r n) xs))(hi:aO E.N G ix (tD (rI k) i))(hy:de xs i=some y):
  bZ E O G ⟨dst,.indexAddr t x ix,ty,pos,after,g⟩ (bN r y):=
 .of_pure fun a w S _ _ hf=>by
  subst hsz
  obtain⟨b,off,c,T,fr,h1,h2,h3,h4⟩:=hx S a hf
  have h5:a.eval ix= .int k i:=cY.1 (hi S a hf)
  obtain⟨h0,hy'⟩:=lC hy
  have hlt:i.toNat<xs.length:=(jP.1 hy').1
  have hc:0≤i∧i<(n:Int):=⟨h0,by omega⟩
  refine⟨.pointer (some ⟨b,off+i.toNat*r.sz,none⟩),?_,b,_,c,T,fr,rfl,h2,?_⟩
  ·simp [execOp,h1,h5,Instr.indexAt,asIntOf,lF ht,Instr.sureAddr,hc,ti.sizeOf,jK]
  ·have h6:=A8 h4 hy'
   rw [wX,za,oO]at h6
   have hmul:i.toNat*r.sz+r.sz≤n*r.sz:=by rw [←CN];exact zd _ (by omega)
   have hmin:min r.sz ((n8 r n).sz-i.toNat*r.sz)=r.sz:=by
    show min r.sz (n*r.sz-i.toNat*r.sz)=r.sz
    omega
   rwa [hmin]at h6
theorem Gh{i:Int}(ht:E.P.underlying t=some (.array n e))(ti:TI E.P e sz bytes agg z)(hm:bx (n8 r n) T b xs∈O)(hx:aO E.N G x (tV (aS b 0)))(hi:aO E.N G ix (tD (rI k) i))(hy:de xs i=some y):
  bZ E O G ⟨dst,.indexAddr t x ix,ty,pos,after,g⟩ (tV (aS b (i.toNat*sz))):=
 .of_pure fun a w S _ ho hf=>by
  have h1:a.eval x=aS b 0:=hx S a hf
  have h5:a.eval ix= .int k i:=cY.1 (hi S a hf)
  obtain⟨⟨_,c,_,h4,_⟩,_⟩:=ho.mem _ hm
  obtain⟨h0,hy'⟩:=lC hy
  have hlt:i.toNat<xs.length:=(jP.1 hy').1
  have hc:0≤i∧i<(n:Int):=⟨h0,by omega⟩
  refine⟨_,?_,rfl⟩
  simp [execOp,h1,h5,aS,Instr.indexAt,asIntOf,lF ht,Instr.sureAddr,hc,ti.sizeOf,jK]
end
end
theorem zF{α:Type}{r:Rp α}{c:Value}{x:α}(h: ∀S,r.rc S [c] x)(S:SH): ∀n,u9 r S (List.replicate n c) (List.replicate n x)
 |0=>rfl
 |n+1=>⟨[c],_,rfl,h S,zF h S n⟩
theorem BL{c:Value}{x:α}(n:Nat)(h: ∀S,r.rc S [c] x): ∀S,(n8 r n).rc S (List.replicate n c) (List.replicate n x):=fun S=>⟨CW,zF h S n⟩
def YC(n:Nat):Option Unit:=if n≤68719476736 then some ()else none
def WZ(n:Int):Option Unit:=if 0<n then some ()else none
theorem E9{n:Int}{u:Unit}(h:WZ n=some u):0<n:=by
 unfold WZ at h
 split at h
 ·assumption
 ·cases h
theorem FU{e:Exit}(mm:Bool)(r:Rp α)(T:TypeId)(h:AT E Q e (mB mm r T none 0 []::O) G):AT E Q e O G:=fun a w S st=>h a w S (st.fresh mm r T)
theorem yX{x:α}(h:dP xs lo (xs.length:Int)=some ys)(hz:xs.take lo.toNat++List.replicate ys.length x=zs):zs.length=xs.length:=by
 obtain⟨l,m,rfl,hm,h1,h2,rfl⟩:=ii h
 have hm' :m=xs.length:=by omega
 subst hm'
 rw [←hz]
 simp
 omega

def tC(n:FuncId)(cts:List Ty):Ty where
 p:=fun S v=> ∃cap:List Value,v= .func (.func n) #[] cap.toArray∧xl S cts cap
 mono:=fun h ⟨cap,e,k⟩=>⟨cap,e,xl.mono h k⟩
section
section
variable{ty:TypeId}
theorem Kw{fid:FuncId}{caps:List Operand}(hcap:j6 E.N G caps cts):bZ E O G ⟨dst,.makeFunc (.func fid) #[] caps.toArray,ty,pos,after,g⟩ (tC fid cts):=
 .of_pure fun a w S _ _ hf=>⟨.func (.func fid) #[] (caps.map a.eval).toArray,by simp [execOp,Instr.makeFunc],_,rfl,hcap.tys hf⟩
end
theorem Ct{n:FuncId}{ty:TypeId}{fo:Operand}{xs:List Operand}(O1 Or:List OE){t:OI→Ty}{O2:OI→List OE}(hO:O=O1++Or)(hc:an E.P n=true)(hs:dl E.P n (ts++cts) O1 t O2)(hf:aO E.N G fo (tC n cts))(hx:j6 E.N G xs ts)(hpost: ∀i,O2 i++Or=post i):
  EffOK E O G ⟨some d,.call ⟨.value fo,xs.toArray,ats⟩,ty,pos,after,g⟩ post t:=fun a w S hsat ho hF hb=>by
 subst hO
 obtain rfl:(fun i=>O2 i++Or)=post:=funext hpost
 obtain⟨cap,e,hcap⟩:=hf S a hF
 have hr:(execOp a.eval ⟨some d,.call ⟨.value fo,xs.toArray,ats⟩,ty,pos,after,g⟩).run E.P w= .ok (.enter n ((xs.map a.eval).toArray++cap.toArray)) w:=by
  simp [execOp,resolve,e,Deferred.ofValue,invoke,eU hc]
 refine⟨fun c h=>(by cases h),?_⟩
 rw [hr]
 have e2:(xs.map a.eval).toArray++cap.toArray=((xs.map a.eval)++cap).toArray:=by simp
 rw [e2]
 exact(hs w S _ hsat ((hx.tys hF).append hcap) (nK ho).1.weak).mono fun en w' ⟨i,v,S',he,hv,h1,h2,h3,h4⟩=>⟨_,he,v,S',i,rfl,h1.more fun b ⟨f,hf,hb⟩=>⟨f,GF _ hf,hb⟩,h2,cZ.turn ho hb h1 h3 h4,hv⟩
end

def ya{α:Type}(xs:List α)(lo:Int)(n:Nat)(i:Int):Option α:=if 0≤i∧i<(n:Int)then de xs (lo+i)else none
theorem re{i:Int}(h:ya xs lo n i=some y):0≤i∧i<(n:Int)∧de xs (lo+i)=some y:=by
 unfold ya at h
 split at h
 ·rename_i hc;exact⟨hc.1,hc.2,h⟩
 ·cases h
theorem ta(h:dP xs lo hi=some ys):0≤lo:=by
 obtain⟨l,m,rfl,_,_,_,_⟩:=ii h
 omega
section
theorem nc(hm:mB mm r T l cap xs∈O)(hs:dP xs lo hi=some ys)(h:(l=none→ys.length=0)∧ys.length≤maxLen→RG E ops Q rest O G):RG E ops Q rest O G:=fun a w S st=>by
 refine h ?_ a w S st
 obtain⟨cells,h1,_⟩:=(st.own.mem _ hm).1
 obtain⟨l',m,_,_,_,h8,rfl⟩:=ii hs
 have hlen:((xs.take m).drop l').length≤xs.length:=by simp;omega
 cases l with
 |none=>have:=h1.1;exact⟨fun _=>by omega,by omega⟩
 |some b=>obtain⟨cur,_,g2,g3,_⟩:=h1;exact⟨fun h=>(by cases h),by omega⟩
section
variable{ty:TypeId}
theorem DK{lo:Nat}(ht:E.P.underlying t=some (.slice e))(hv:l=none→n=0)(hx:aO E.N G x (tV (oQ sz l cap lo n))):
  bZ E O G ⟨dst,.call ⟨.builtin .len,#[x],#[t]⟩,ty,pos,after,g⟩ (tD (rI .i64) (n:Int)):=
 .of_pure fun a w S _ ho hf=>by
  have h1:a.eval x=oQ sz l cap lo n:=hx S a hf
  obtain⟨ad,c,h3⟩: ∃ad c,oQ sz l cap lo n= .slice ad n c:=by
   cases l with
   |none=>rw [hv rfl];exact⟨none,0,rfl⟩
   |some b=>exact⟨_,_,rfl⟩
  refine⟨.int .i64 n,?_,cY.2 rfl⟩
  simp [execOp,resolve,invoke,builtin,Builtin.len_,lF ht,h1,h3,goInt]
theorem nE{i:Int}(ht:E.P.underlying t=some (.slice e))(ti:TI E.P e sz bytes agg z)(hsz:r.sz=sz)(hm:mB mm r U l cap xs∈O)(hl0:0≤lo)(hx:aO E.N G x (tV (oQ sz l cap lo.toNat n)))(hi' :aO E.N G ix (tD (rI k) i))(hy:ya xs lo n i=some y):
  bZ E O G ⟨dst,.indexAddr t x ix,ty,pos,after,g⟩ (tV (p8 l ((lo+i).toNat*sz+0))):=
 .of_pure fun a w S _ ho hf=>by
  subst hsz
  have h1:a.eval x=oQ r.sz l cap lo.toNat n:=hx S a hf
  have h3:a.eval ix= .int k i:=cY.1 (hi' S a hf)
  obtain⟨hi0,hin,hxi⟩:=re hy
  obtain⟨_,hx'⟩:=lC hxi
  obtain⟨b,cur,rfl,_,hle,_⟩:=vB (ho.mem _ hm).1 hx'
  have hlt2:(lo+i).toNat<xs.length:=(jP.1 hx').1
  have hne: ¬(cap=lo.toNat):=by omega
  refine⟨_,?_,rfl⟩
  have hc:0≤i∧i<(n:Int):=⟨hi0,hin⟩
  have e1:(lo+i).toNat=lo.toNat+i.toNat:=by omega
  simp [execOp,h1,h3,oQ,hne,Instr.indexAt,asIntOf,lF ht,hc,ti.sizeOf,jK,p8,aS,e1,uU]
end
end

section
variable{ty:TypeId}{l:List Oper}
end

theorem ZZ [Inhabited α]{c b:Bool}{x:Option α}{k:α→Option β}{d:Option β}{r:β}(h:c=true→(if b=true then x.bind k else d)=some r): ∃y,((c&&b)=true→x=some y∧k y=some r)∧(c=true→b=false→d=some r):=by
 cases c with
 |false=>exact⟨default,fun e=>(by cases e),fun e=>(by cases e)⟩
 |true=>
  obtain⟨y,h1,h2⟩:=og (h rfl)
  exact⟨y,fun e=>h1 e,fun _ e=>h2 e⟩
def pw{κ β:Type} [DecidableEq κ]:List (κ×β)→κ→Option β
 |[],_=>none
 |p::m,k=>if p.1=k then some p.2 else pw m k
def dF{κ β:Type} [DecidableEq κ]:List (κ×β)→κ→β→List (κ×β)
 |[],k,v=>[(k,v)]
 |p::m,k,v=>if p.1=k then(k,v)::m else p::dF m k v
def HC{κ:Type}(P:Program)(kt:TypeId)(kv:κ→Value):Prop:= ∃d,P.underlying kt=some d∧(∀a,MapKept.IsKey d (kv a))∧ ∀a b,kv a=kv b→a=b
def kvI(k:IntKind)(n:Int):Value:= .int k n
theorem eK{kt:TypeId}(h:P.underlying kt=some (.int k)):HC P kt (kvI k):=⟨_,h,fun _=>rfl,fun a b e=>by injection e⟩
structure MV(β:Type) where
 p:World→SH→β→Option Nat×Nat→Value→Prop
 here: ∀{w S y o v},p w S y o v→ ∀j,o.1=some j→j<w.heap.size
 kept: ∀{C w w' S S' y o v},p w S y o v→gz C w S w' S' →(∀j,o.1=some j→ ¬C j)→p w' S' y o v
def xg{β:Type}(ty:β→Ty):MV β where
 p:=fun _ S y o v=>o.1=none∧(ty y).p S v
 here:=fun h j hj=>by rw [h.1]at hj;cases hj
 kept:=fun h k _=>⟨h.1,(ty _).mono k.keep h.2⟩
section
variable{κ:Type} [DecidableEq κ]{V:MV β}{kv:κ→Value}{d:TypeDesc}{k:κ}
def xh(V:MV β)(kv:κ→Value)(w:World)(S:SH)(h:Option κ):List MapEntry→List (Option Nat×Nat)→List (κ×β)→Prop
 |[],[],[]=>True
 |e::es,o::os,q::m=>e.key=kv q.1∧(if h=some q.1 then o.1=none else V.p w S q.2 o e.val)∧(∀o' ∈os,∀j,o.1=some j→o'.1≠some j)∧(∀p∈m,p.1≠q.1)∧xh V kv w S h es os m
 |_,_,_=>False
theorem Hd{h:Option κ}: ∀{es:List MapEntry} {os:List (Option Nat×Nat)} {m:List (κ×β)},xh V kv w S h es os m→ ∀o∈os,∀j,o.1=some j→j<w.heap.size
 |[],[],[],_,o,ho,_,_=>by cases ho
 |e::es,o::os,q::m,⟨_,h2,_,_,h5⟩,o',ho,j,hj=>by
  rcases gk.1 ho with rfl|ho
  ·split at h2
   ·rw [h2]at hj;cases hj
   ·exact V.here h2 j hj
  ·exact Hd h5 o' ho j hj
theorem Bz{C:Nat→Prop}(k:gz C w S w' S'){h:Option κ}: ∀{es:List MapEntry} {os:List (Option Nat×Nat)} {m:List (κ×β)},xh V kv w S h es os m→(∀o∈os,∀j,o.1=some j→ ¬C j)→xh V kv w' S' h es os m
 |[],[],[],_,_=>trivial
 |e::es,o::os,q::m,⟨h1,h2,h3,h4,h5⟩,hC=>⟨h1,by
  split
  ·rename_i hh;rw [bk hh]at h2;exact h2
  ·rename_i hh;rw [aX hh]at h2;exact V.kept h2 k (hC o (lb ..)),h3,h4,Bz k h5 fun o' ho=>hC o' (lc _ ho)⟩
theorem Df{h:Option κ}: ∀{es:List MapEntry} {os:List (Option Nat×Nat)} {m:List (κ×β)},xh V kv w S h es os m→(∀p∈m,h≠some p.1)→xh V kv w S none es os m
 |[],[],[],_,_=>trivial
 |e::es,o::os,q::m,⟨h1,h2,h3,h4,h5⟩,hk=>⟨h1,by
  rw [aX (hk q (lb ..))]at h2
  rw [aX (by simp)];exact h2,h3,h4,Df h5 fun p hp=>hk p (lc _ hp)⟩
theorem sR(hd: ∀a,MapKept.IsKey d (kv a))(hi: ∀a b,kv a=kv b→a=b)(a b:κ):Instr.sameNow d (kv a) (kv b)=some (decide (a=b)):=by
 obtain⟨r,h1,h2⟩:=MapKept.sameNow_of_keys (hd a) (hd b)
 rw [h1]
 by_cases h:a=b
 ·subst h;rw [h2.2 rfl];simp
 ·rw [zc h]
  cases r with
  |false=>rfl
  |true=>exact absurd (hi _ _ (h2.1 rfl)) h
theorem uc(hd: ∀a,MapKept.IsKey d (kv a))(hi: ∀a b,kv a=kv b→a=b): ∀{es:List MapEntry} {os:List (Option Nat×Nat)} {m:List (κ×β)} (i:Nat),xh V kv w S none es os m→
  ∃os',(∀x∈os',x∈os∨x.1=none)∧xh V kv w S (some k) es os' m∧
   ((pw m k=none∧Instr.findNow d (kv k) es i=some none)∨ ∃(y:β) (o:Option Nat×Nat) (e:MapEntry) (j:Nat),pw m k=some y∧o∈os∧V.p w S y o e.val∧Instr.findNow d (kv k) es i=some (some (j,e.val))∧ ∀x∈os',∀q,o.1=some q→x.1≠some q)
 |[],[],[],i,_=>⟨[],fun x hx=>(by cases hx),trivial,.inl ⟨rfl,rfl⟩⟩
 |e::es,o::os,q::m,i,⟨h1,h2,h3,h4,h5⟩=>by
  rw [aX (by simp)]at h2
  by_cases hk:q.1=k
  ·refine⟨(none,0)::os,fun x hx=>?_,⟨h1,by rw [bk (by rw [hk])],fun _ _ _ hj=>(by cases hj),h4,?_⟩,.inr ⟨q.2,o,e,i,by unfold pw;rw [bk hk],lb ..,h2,?_,fun x hx j hj=>?_⟩⟩
   ·rcases gk.1 hx with rfl|hx
    ·exact .inr rfl
    ·exact .inl (lc _ hx)
   ·have: ∀{es:List MapEntry} {os:List (Option Nat×Nat)} {m:List (κ×β)},xh V kv w S none es os m→(∀p∈m,p.1≠k)→xh V kv w S (some k) es os m:=by
     intro es
     induction es with
     |nil=>intro os m h _;cases os<;>cases m<;>first|trivial|exact h.elim
     |cons e es ih=>
      intro os m h hm
      cases os with
      |nil=>cases m<;>exact h.elim
      |cons o os=>
       cases m with
       |nil=>exact h.elim
       |cons q m=>
        obtain⟨g1,g2,g3,g4,g5⟩:=h
        rw [aX (by simp)]at g2
        exact⟨g1,by rw [aX (fun e=>hm q (lb ..) (p5 e).symm)];exact g2,g3,g4,ih g5 fun p hp=>hm p (lc _ hp)⟩
    exact this h5 (fun p hp=>by rw [←hk];exact h4 p hp)
   ·unfold Instr.findNow
    rw [h1,sR hd hi,hk,zb rfl]
   ·rcases gk.1 hx with rfl|hx
    ·exact fun e=>by cases e
    ·exact h3 x hx j hj
  ·obtain⟨os',g1,g2,g3⟩:=uc hd hi (i+1) h5
   refine⟨o::os',fun x hx=>?_,⟨h1,by rw [aX (fun e=>hk (p5 e).symm)];exact h2,fun o' ho' j hj=>?_,h4,g2⟩,?_⟩
   ·rcases gk.1 hx with rfl|hx
    ·exact .inl (lb ..)
    ·exact(g1 x hx).imp (lc _) id
   ·rcases g1 o' ho' with h|h
    ·exact h3 o' h j hj
    ·rw [h];exact fun e=>by cases e
   ·have hf:Instr.findNow d (kv k) (e::es) i=Instr.findNow d (kv k) es (i+1):=by
     conv=>lhs;unfold Instr.findNow
     rw [h1,sR hd hi,zc (fun e=>hk e.symm)]
    have hm:pw (q::m) k=pw m k:=by conv=>lhs;unfold pw;rw [aX hk]
    rw [hf,hm]
    refine g3.imp id fun⟨y,o1,e1,j,f1,f2,f3,f4,f5⟩=>⟨y,o1,e1,j,f1,lc _ f2,f3,f4,fun x hx q hq=>?_⟩
    rcases gk.1 hx with rfl|hx
    ·exact fun e=>h3 o1 f2 q e hq
    ·exact f5 x hx q hq
theorem KE(x:α)(xs:List α)(j:Nat)(f:α→α):(x::xs).modify (j+1) f=x::xs.modify j f:=by simp [List.modify_succ_cons]
theorem He(hd: ∀a,MapKept.IsKey d (kv a))(hi: ∀a b,kv a=kv b→a=b){y:β}{o:Option Nat×Nat}{v:Value}{born:Nat}(hv:V.p w S y o v): ∀{es:List MapEntry} {os:List (Option Nat×Nat)} {m:List (κ×β)} (i:Nat),xh V kv w S (some k) es os m→(∀o' ∈os,∀j,o.1=some j→o'.1≠some j)→
    ∃os',(∀x∈os',x∈os∨x=o)∧
      ((∃(j:Nat) (e:MapEntry),Instr.findNow d (kv k) es i=some (some (i+j,e.val))∧es[j]? =some e∧e.key=kv k∧xh V kv w S none (es.modify j fun e=>{e with key:=kv k,val:=v}) os' (dF m k y))∨
        (Instr.findNow d (kv k) es i=some none∧xh V kv w S none (es++[⟨kv k,v,born⟩]) os' (dF m k y)))
  |[],[],[],i,_,_=>⟨[o],fun x hx=> .inr (Do.1 hx),.inr ⟨rfl,⟨rfl,by rw [aX (by simp)];exact hv,fun _ h=>(by cases h),fun _ h=>(by cases h),trivial⟩⟩⟩
  |e::es,o1::os,q::m,i,⟨h1,h2,h3,h4,h5⟩,ha=>by
    by_cases hk:q.1=k
    · refine⟨o::os,fun x hx=>?_,.inl ⟨0,e,?_,rfl,by rw [h1,hk],?_⟩⟩
      · rcases gk.1 hx with rfl|hx
        · exact .inr rfl
        · exact .inl (lc _ hx)
      · unfold Instr.findNow
        rw [h1,sR hd hi,hk,zb rfl]
        rfl
      · unfold dF
        rw [bk hk,List.modify_zero_cons]
        exact⟨rfl,by rw [aX (by simp)];exact hv,fun o' ho' =>ha o' (lc _ ho'),fun p hp=>by rw [←hk];exact h4 p hp,
          Df h5 fun p hp e=>h4 p hp (by rw [hk];exact(p5 e).symm)⟩
    · obtain⟨os',g1,g2⟩:=He hd hi (born:=born) hv (i+1) h5 fun o' ho' =>ha o' (lc _ ho')
      rw [aX (fun e=>hk (p5 e).symm)]at h2
      have hf:Instr.findNow d (kv k) (e::es) i=Instr.findNow d (kv k) es (i+1):=by
        conv=>lhs;unfold Instr.findNow
        rw [h1,sR hd hi,zc (fun e=>hk e.symm)]
      have hm:dF (q::m) k y=q::dF m k y:=by conv=>lhs;unfold dF;rw [aX hk]
      have hap: ∀o' ∈os',∀j,o1.1=some j→o'.1≠some j:=fun o' ho' j hj=>by
        rcases g1 o' ho' with h|rfl
        · exact h3 o' h j hj
        · exact fun e=>ha o1 (lb ..) j e hj
      have hne: ∀p∈dF m k y,p.1≠q.1:=by
        have: ∀m:List (κ×β),(∀p∈m,p.1≠q.1)→ ∀p∈dF m k y,p.1≠q.1:=by
          intro m
          induction m with
          |nil=>intro _ p hp;rw [Do.1 hp];exact fun e=>hk e.symm
          |cons p0 m ih=>
            intro hm p hp
            unfold dF at hp
            split at hp
            · rcases gk.1 hp with rfl|hp
              · exact fun e=>hk e.symm
              · exact hm p (lc _ hp)
            · rcases gk.1 hp with rfl|hp
              · exact hm _ (lb ..)
              · exact ih (fun p hp=>hm p (lc _ hp)) p hp
        exact this m h4
      rw [hf,hm]
      refine⟨o1::os',fun x hx=>?_,g2.imp (fun⟨j,e',f1,f2,f3,f4⟩=>⟨j+1,e',by rw [f1];congr 3;omega,by simpa using f2,f3,?_⟩) fun⟨f1,f2⟩=>⟨f1,?_⟩⟩
      · rcases gk.1 hx with rfl|hx
        · exact .inl (lb ..)
        · exact(g1 x hx).imp (lc _) id
      · rw [KE]
        exact⟨h1,by rw [aX (by simp)];exact h2,hap,hne,f4⟩
      · exact⟨h1,by rw [aX (by simp)];exact h2,hap,hne,f2⟩
theorem Hc{h:Option κ}: ∀{es:List MapEntry} {os:List (Option Nat×Nat)} {m:List (κ×β)},xh V kv w S h es os m→ ∀x∈es,∃q∈m,x.key=kv q.1
 |[],[],[],_,x,hx=>by cases hx
 |e::es,o::os,q::m,⟨h1,_,_,_,h5⟩,x,hx=>by
  rcases gk.1 hx with rfl|hx
  ·exact⟨q,lb ..,h1⟩
  ·obtain⟨q',g1,g2⟩:=Hc h5 x hx
   exact⟨q',lc _ g1,g2⟩
theorem Qq(hd: ∀a,MapKept.IsKey d (kv a)){h:Option κ}{es:List MapEntry}{os:List (Option Nat×Nat)}{m:List (κ×β)}(h4:xh V kv w S h es os m)(g1:Instr.findNow d (kv k) es i=some none){x:MapEntry}(hx:x∈es):x.key≠kv k:=by
 rcases MapKept.findNow_spec (hd k) es i (fun y hy=>by obtain⟨q,_,e⟩:=Hc h4 y hy;rw [e];exact hd _)with⟨_,h2⟩|⟨j,e,h2,_⟩
 ·exact h2 x hx
 ·rw [g1]at h2;cases h2
def nP(V:MV β)(kv:κ→Value)(b:Nat)(h:Option κ)(os:List (Option Nat×Nat))(m:List (κ×β)):OE where
 fp:=fun j=>j=b∨ ∃o∈os,o.1=some j
 p:=fun w S=>S b=none∧(∀o∈os,o.1≠some b)∧ ∃es clock,w.heap[b]? =some (.map es clock)∧xh V kv w S h es.toList os m∧MapKept.Stamped es clock
 here:=by
  intro w S ⟨_,_,es,clock,h3,h4,_⟩ j hj
  rcases hj with rfl|⟨o,ho,hj⟩
  ·exact(wc.1 h3).1
  ·exact Hd h4 o ho j hj
 kept:=by
  intro C w w' S S' ⟨h1,h2,es,clock,h3,h4,hst⟩ k hC
  have hlt:=(wc.1 h3).1
  exact⟨by rw [k.old b hlt (hC b (.inl rfl))];exact h1,h2,es,clock,by rw [k.heap b hlt (hC b (.inl rfl))];exact h3,Bz k h4 (fun o ho j hj=>hC j (.inr ⟨o,ho,hj⟩)),hst⟩
def rd(b:Nat):Value:= .map (some b)
end
section
variable{κ:Type} [DecidableEq κ]{V:MV β}{kv:κ→Value}{os:List (Option Nat×Nat)}{m:List (κ×β)}{k:κ}{kt et:TypeId}{i v:Operand}{dst:Option Nat}{ty:TypeId}
def LL(N:Fr)(G:lW)(x:Operand)(u:Value):Prop:= ∀S a,di N S a G→a.eval x=u
theorem oc{N:Fr}{q:IntKind}{n:Int}(h:aO N G x (tD (rI q) n)):LL N G x (kvI q n):=fun S a hf=>cY.1 (h S a hf)
def ZV(P:Program)(T:TypeId)(z:Value):Prop:=(P.info? T).bind (·.zero)=some z
theorem ZV.run{z:Value}(h:ZV P T z)(w:World):(zeroValue T).run P w= .ok z w:=by
 unfold ZV at h
 cases hi:P.info? T with
 |none=>rw [hi]at h;cases h
 |some i=>
  rw [hi]at h
  have h' :i.zero=some z:=h
  simp [zeroValue,typeInfo,hi,h']
theorem Au(V:MV β)(kv:κ→Value)(hd:Nat.blt d E.N.n=true)(k: ∀b,RG E ops Q rest (nP V kv b none [] []::O) ((d,tV (rd b))::G)):
  RG E ops Q (⟨some d,.makeMap t none,ty,pos,after,none⟩::rest) O G:= .of rfl fun a w S st=>by
 obtain⟨he,hs',hno⟩:=gy (w:=w) (.map #[] 0) st.sat
 have hrun:(execOp a.eval ⟨some d,.makeMap t none,ty,pos,after,none⟩).run E.P w= .ok (.value (rd w.heap.size)) (w.alloc (.map #[] 0)):=by
  simp [execOp,Instr.makeMap,rd]
 refine⟨fun c h=>(by cases h),?_⟩
 rw [hrun]
 exact k w.heap.size _ _ S ⟨st.ext.step0 he,hs',qn st.own he ⟨hno,fun _ h=>(by cases h),#[],0,xv w _,trivial,MapKept.stamped_empty 0⟩ (fun b hb=>by
  rcases hb with rfl|⟨_,h,_⟩
  ·exact dY _
  ·cases h) st.base_le,st.facts.put hd rfl⟩
theorem nw{kk:Value}{es:Array MapEntry}{clock:Nat}{q:TypeDesc}{z:Value}{u:Option (Nat×Value)}(hm:P.underlying t=some (.map kt et))(hq:P.underlying kt=some q)(hk:MapKept.IsKey q kk)(hb:w.heap[b]? =some (.map es clock))(hz:ZV P et z)(hf:Instr.findNow q kk es.toList 0=some u)(c:Bool):(Instr.lookup t (rd b) kk c).run P w= .ok (if c then .tuple #[(u.map (·.2)).getD z,.bool u.isSome]else(u.map (·.2)).getD z) w:=by
 cases u with
 |none=>simp [Instr.lookup,rd,lF hm,NU hb,NQ hq hk,MapKept.run_findKey hq hf,hz.run,Result.andThen]
 |some r=>simp [Instr.lookup,rd,lF hm,NU hb,NQ hq hk,MapKept.run_findKey hq hf,Result.andThen]
theorem MT{γ:β→Ty}{z:β}{zv:Value}(hm:E.P.underlying t=some (.map kt et))(hk:HC E.P kt kv)(hz:ZV E.P et zv)(hzt: ∀S,(γ z).p S zv)(hmem:nP (xg γ) kv b none os m∈O)(hx:aO E.N G x (tV (rd b)))(hi:LL E.N G i (kv k)):
  bZ E O G ⟨dst,.lookup t x i false,ty,pos,after,g⟩ (γ ((pw m k).getD z)):= .of_pure fun a w S hs ho hf=>by
 obtain⟨⟨_,_,es,clock,h3,h4,_⟩,_⟩:=cZ.mem ho _ hmem
 obtain⟨q,hq,hd,hinj⟩:=hk
 have h1:a.eval x=rd b:=hx S a hf
 have h2:a.eval i=kv k:=hi S a hf
 obtain⟨_,_,_,h5⟩:=uc hd hinj (k:=k) 0 h4
 rcases h5 with⟨g1,g2⟩|⟨y,o,e,j,g1,g2,g3,g4,g5⟩
 ·refine⟨zv,by simp [execOp,h1,h2,nw hm hq (hd k) h3 hz g2],by rw [g1];exact hzt S⟩
 ·refine⟨e.val,by simp [execOp,h1,h2,nw hm hq (hd k) h3 hz g4],by rw [g1];exact g3.2⟩
theorem Kx{γ:β→Ty}{z:β}{zv:Value}(hm:E.P.underlying t=some (.map kt et))(hk:HC E.P kt kv)(hz:ZV E.P et zv)(hzt: ∀S,(γ z).p S zv)(hmem:nP (xg γ) kv b none os m∈O)(hx:aO E.N G x (tV (rd b)))(hi:LL E.N G i (kv k)):
  bZ E O G ⟨dst,.lookup t x i true,ty,pos,after,g⟩ (tT [γ ((pw m k).getD z),tD rB (pw m k).isSome]):= .of_pure fun a w S hs ho hf=>by
 obtain⟨⟨_,_,es,clock,h3,h4,_⟩,_⟩:=cZ.mem ho _ hmem
 obtain⟨q,hq,hd,hinj⟩:=hk
 have h1:a.eval x=rd b:=hx S a hf
 have h2:a.eval i=kv k:=hi S a hf
 obtain⟨_,_,_,h5⟩:=uc hd hinj (k:=k) 0 h4
 rcases h5 with⟨g1,g2⟩|⟨y,o,e,j,g1,g2,g3,g4,g5⟩
 ·refine⟨.tuple #[zv,.bool false],by simp [execOp,h1,h2,nw hm hq (hd k) h3 hz g2],[zv,.bool false],rfl,by rw [g1];exact hzt S,jb.2 (by rw [g1];rfl),trivial⟩
 ·refine⟨.tuple #[e.val,.bool true],by simp [execOp,h1,h2,nw hm hq (hd k) h3 hz g4],[e.val,.bool true],rfl,by rw [g1];exact g3.2,jb.2 (by rw [g1];rfl),trivial⟩
theorem B8{kk:Value}{es:Array MapEntry}{clock:Nat}{q:TypeDesc}{val:Value}(hm:P.underlying t=some (.map kt et))(hq:P.underlying kt=some q)(hk:MapKept.IsKey q kk)(hb:w.heap[b]? =some (.map es clock)):
  (Instr.findNow q kk es.toList 0=some none→(Instr.mapUpdate t (rd b) kk val).run P w= .ok () {w with heap:=w.heap.setIfInBounds b (.map (es.push ⟨kk,val,clock⟩) (clock+1))})∧
  (∀j e,Instr.findNow q kk es.toList 0=some (some (j,e))→(∀e',es.toList[j]? =some e' →e'.key=kk)→(∃e',es.toList[j]? =some e')→(Instr.mapUpdate t (rd b) kk val).run P w= .ok () {w with heap:=w.heap.setIfInBounds b (.map (es.modify j fun e=>{e with key:=kk,val:=val}) clock)}):=by
 refine⟨fun hf=>?_,fun j e hf hj he=>?_⟩
 ·simp [Instr.mapUpdate,rd,lF hm,NU hb,NQ hq hk,MapKept.run_findKey hq hf,MapKept.run_setObj_map _ hb,Result.andThen]
 ·obtain⟨e',he'⟩:=he
  have h1:=hj e' he'
  have h2:es[j]? =some e' :=by simpa using he'
  simp [Instr.mapUpdate,rd,lF hm,NU hb,NQ hq hk,MapKept.run_findKey hq hf,MapKept.run_setObj_map _ hb,Result.andThen,h2,h1,MapKept.run_keyThatStays hk]
theorem Qj{y:β}{o:Option Nat×Nat}{val:Value}(hs:jL w S)(hm:E.P.underlying t=some (.map kt et))(hk:HC E.P kt kv)(hp:(nP V kv b (some k) os m).p w S)(hv:V.p w S y o val)(hob:o.1≠some b)(hap: ∀o' ∈os,∀j,o.1=some j→o'.1≠some j):
  ∃w' os',(Instr.mapUpdate t (rd b) (kv k) val).run E.P w= .ok () w' ∧gz (fun j=>j=b) w S w' S∧jL w' S∧(nP V kv b none os' (dF m k y)).p w' S∧(∀j,(nP V kv b none os' (dF m k y)).fp j→(nP V kv b (some k) os m).fp j∨o.1=some j):=by
 obtain⟨hno,hnb,es,clock,h3,h4,hst⟩:=hp
 obtain⟨q,hq,hdk,hinj⟩:=hk
 obtain⟨os',p1,p2⟩:=He hdk hinj (born:=clock) hv 0 h4 hap
 have hnb' : ∀o' ∈os',o'.1≠some b:=fun o' ho' =>by
  rcases p1 o' ho' with h|rfl
  ·exact hnb o' h
  ·exact hob
 have hfp: ∀j,(j=b∨ ∃o∈os',o.1=some j)→(j=b∨ ∃o∈os,o.1=some j)∨o.1=some j:=fun j hj=>by
  rcases hj with h|⟨o',ho',e⟩
  ·exact .inl (.inl h)
  ·rcases p1 o' ho' with h|rfl
   ·exact .inl (.inr ⟨o',h,e⟩)
   ·exact .inr e
 have hw: ∀X:Obj,gz (fun j=>j=b) w S {w with heap:=w.heap.setIfInBounds b X} S∧jL {w with heap:=w.heap.setIfInBounds b X} S∧({w with heap:=w.heap.setIfInBounds b X}:World).heap[b]? =some X:=fun X=>
  ⟨⟨rfl,rfl,rfl,dY _,by simp,fun j _ hj=>(MapKept.heap_set (o' :=X) h3).2 j hj,SH.le_refl _,fun _ _ _=>rfl⟩,hs.same fun j o hj=>(MapKept.heap_set (o' :=X) h3).2 j (fun e=>by subst e;rw [hno]at hj;cases hj),(MapKept.heap_set h3).1⟩
 obtain⟨r1,r2⟩:=B8 (val:=val) hm hq (hdk k) h3
 rcases p2 with⟨j,e,g1,g2,g3,g4⟩|⟨g1,g2⟩
 ·rw [ve]at g1
  obtain⟨x1,x2,x3⟩:=hw (.map (es.modify j fun e=>{e with key:=kv k,val:=val}) clock)
  refine⟨_,os',r2 j _ g1 (fun e' he' =>by rw [g2]at he';cases he';exact g3) ⟨_,g2⟩,x1,x2,⟨hno,hnb',_,_,x3,?_,MapKept.stamped_modify hst j _ (fun _ _=>rfl) (fun e' _ he' =>by rw [←Array.getElem?_toList,g2]at he';cases he';exact g3.symm)⟩,hfp⟩;refine Bz x1 (by rw [Array.toList_modify];exact g4) fun o' ho' j hj e=>?_
  subst e
  exact hnb' o' ho' hj
 ·obtain⟨x1,x2,x3⟩:=hw (.map (es.push ⟨kv k,val,clock⟩) (clock+1))
  refine⟨_,os',r1 g1,x1,x2,⟨hno,hnb',_,_,x3,?_,MapKept.stamped_push hst (fun x hx e=>?_)⟩,hfp⟩
  rotate_left
  ·exact Qq hdk h4 g1 hx e
  refine Bz x1 (by rw [Array.toList_push];exact g2) fun o' ho' j hj e=>?_
  subst e
  exact hnb' o' ho' hj
end

def Ai(tmps:Array Value):ResultVar→Sem Value
 | .tmp t=>pure (tmps.getD t undef)
 | .cell a t=>do loadVar t (←asAddr (tmps.getD a undef))
def Pv(P:Program)(N:Fr)(G:lW)(rv:ResultVar)(t:Ty):Prop:= ∀a w S,jL w S→di N S a G→ ∃v,(Ai a.tmps rv).run P w= .ok v w∧t.p S v
theorem aK{N:Fr}{k:Nat}{t:Ty}(hk:dm G k=some t):Pv P N G (.tmp k) t:=fun a w S _ hf=>⟨_,rfl,hf.at_ k t hk⟩
theorem aN{N:Fr}{k:Nat}{x:α}(ti:TI P T sz bytes agg z)(hsz:r.sz=sz)(hag:r.agg=agg)(hk:dm G k=some (bN r x)):Pv P N G (.cell k T) (tD r x):=fun a w S hs hf=>by
 obtain⟨b,off,c,U,fr,h1,h2,h3⟩:=hf.at_ k _ hk
 obtain⟨c',h4,h5⟩:=hs.part h2 (r.len h3)
 rw [←h5]at h3
 have hl:=kS ti h4 hsz hag h3
 have h1' :a.tmps[k]?.getD undef=Value.pointer (some ⟨b,off,none⟩):=by simpa [Jq] using h1
 exact⟨_,by simp [Ai,h1',asAddr,hl],_,rfl,h3⟩
def QJ(P:Program)(N:Fr)(G:lW):List ResultVar→List Ty→Prop
 |[],[]=>True
 |rv::rvs,t::ts=>Pv P N G rv t∧QJ P N G rvs ts
 |_,_=>False
theorem QJ.run{N:Fr}(hs:jL w S)(hf:di N S a G): ∀{rvs:List ResultVar} {ts:List Ty},QJ P N G rvs ts→ ∃vs,(rvs.mapM (Ai a.tmps)).run P w= .ok vs w∧xl S ts vs∧vs.length=rvs.length
 |[],[],_=>⟨[],rfl,trivial,rfl⟩
 |rv::rvs,t::ts,⟨h1,h2⟩=>by
  obtain⟨v,g1,g2⟩:=h1 a w S hs hf
  obtain⟨vs,k1,k2,k3⟩:=QJ.run hs hf h2
  exact⟨v::vs,by simp [List.mapM_cons,g1,k1,Result.andThen],⟨g2,k2⟩,by simp [k3]⟩
theorem be{rvs:List ResultVar}(hr:fn.results=rvs.toArray)(h1:Nat.beq rvs.length 1=false)(h:QJ P ⟨N,[]⟩ G rvs ts):
  AT ⟨P,⟨N,[]⟩,B,w0,S0,none⟩ (bodyPost P fn (Lk ⟨P,⟨N,[]⟩,B,w0,S0,none⟩ (tT ts))) .ret O G:=fun a w S st=>by
 obtain⟨vs,k1,k2,k3⟩:=h.run st.sat st.facts
 have hne: ¬vs.length=1:=by rw [k3];intro e;rw [e]at h1;cases h1
 refine⟨st.facts.defers,.tuple vs.toArray,?_,_,S,rfl,st.ext,st.sat,vs,rfl,k2⟩
 have e1:(fn.results.mapM (Ai a.tmps)).run P w= .ok vs.toArray w:=by
  rw [hr,List.mapM_toArray,Sem.run_map,k1]
  rfl
 have e3:results fn a.tmps=((fn.results.mapM (Ai a.tmps))>>=fun vs=>pure (if h:vs.size=1 then vs[0]else .tuple vs)):=rfl
 rw [e3,vf,e1]
 simp [Result.andThen,hne]

theorem Rk{v:Value}(h:(tD (ik r) xs).p S v):(ik r).rc S [v] xs:=by
 obtain⟨cs,e,h2⟩:=h
 obtain⟨a,cap,e2,h3⟩:=h2
 subst e2
 rw [e]
 exact⟨a,cap,rfl,h3⟩
section
variable{ty:TypeId}
theorem q9{r:Rp β}{get:β→Value}{x:β}{p:Operand}(ti:TI E.P U 1 bytes false z)(hget:pY r off rV get)(hm:bx r T b x∈O)(hv:get x=bc l cap n)(hp:aO E.N G p (tV (aS b off))):
  bZ E O G ⟨dst,.load U p,ty,pos,after,g⟩ (tV (bc l cap n)):=(bE (q:=rV) ti rfl rfl hget hm hp).imp fun _ _ h=>by rw [←hv];exact(wj.1 h).1
theorem Qb{q:Rp α}{r:Rp β}{get:β→Value}{x:β}{V:TypeId}{p:Operand}(ti:TI E.P U 1 bytes false z)(hget:pY r off rV get)(hm:bx r T b x∈O)(hm2:ez q V l cap xs∈O)(hv:get x=bc l cap xs.length)(hp:aO E.N G p (tV (aS b off))):
  bZ E O G ⟨dst,.load U p,ty,pos,after,g⟩ (tO q l cap xs):=fun a w S hs ho hf=>
 oC (fun _ _ ⟨v,S',h1,h2,h3,h4⟩=>⟨v,S',h1,h2,h3,h4,by
  have h5:v=bc l cap xs.length:=h4
  rw [h5]
  exact qe (((ho.ext0 h2).mem _ hm2).1)⟩) (q9 (g:=g) (ty:=ty) (pos:=pos) (after:=after) (dst:=dst) ti hget hm hv hp a w S hs ho hf)
theorem o3{o:Nat}{p:Operand}(hf:da E.P T i=some (off,sz))(h0:Nat.beq sz 0=false)(hp:aO E.N G p (tV (aS b o)))(he:o+off=n):bZ E O G ⟨dst,.fieldAddr T p i,ty,pos,after,g⟩ (tV (aS b n)):=by
 subst he
 exact Gk hf h0 hp
theorem ES{q:Rp α}{r:Rp β}{x:β}{p:Operand}(ti:TI E.P U sz bytes agg z)(hsz:q.sz=sz)(hag:q.agg=agg)(hag2:r.agg=agg)(hsz2:r.sz=sz)(hm:bx r T b x∈O)(hc: ∀w S cs,cZ E.base E.B w S O→r.rc S cs x→q.rc S cs y)(hp:aO E.N G p (tV (aS b 0))):
  bZ E O G ⟨dst,.load U p,ty,pos,after,g⟩ (tD q y):= .of_pure fun a w S _ ho hf=>by
 have h1:a.eval p=aS b 0:=hp S a hf
 obtain⟨⟨_,cur,h5,h6⟩,_⟩:=ho.mem _ hm
 have h7:=hc w S _ ho h6
 have hl:=q.len h7
 have h8:q.rc S ((cur.toList.drop 0).take q.sz) y:=by rw [xn,sC (by omega)];exact h7
 exact⟨_,by simp [execOp,h1,aS,Instr.loadAt,Instr.sureAddr,kS ti h5 hsz hag h8],_,rfl,h8⟩
theorem Ii{q:Rp α}{V:TypeId}(ho:cZ base B w S O)(hm:ez q V l cap xs∈O):(ik q).rc S [bc l cap xs.length] xs:=Rk (qe (ho.mem _ hm).1)
end
def qM{α β γ:Type}(r:Rp α)(r' :Rp γ)(off:Nat)(q:Rp β)(x:α)(y:β)(x' :γ):Prop:= ∀S cs ds,r.rc S cs x→q.rc S ds y→r'.rc S (cs.take off++ds++cs.drop (off+q.sz)) x'
theorem oS{set:α→β→α}{x:α}{y:β}(h:j5 r off q set):qM r r off q x y (set x y):=fun S cs ds h1 h2=>h S cs x ds y h1 h2
theorem yC{r' :Rp γ}{x:α}{y:γ}(hs:r.sz=r'.sz):qM r r' 0 r' x y y:=fun S cs ds h1 h2=>by
 have hl:=r.len h1
 rw [List.take_zero,k7,D5 (by omega),tu]
 exact h2
theorem N7{α' :Type}{p:Rp α}{p' :Rp α'}{x:α×β}{y:γ}{x1:α'}(h:qM p p' 0 u x.1 y x1)(hu:Nat.ble u.sz p.sz=true):qM (dI p q) (dI p' q) 0 u x y (x1,x.2):=fun S cs ds ⟨a,b,e,h1,h2⟩ hd=>by
 have hl:=p.len h1
 have hu' :=oP hu
 have h3:=h S a ds h1 hd
 subst e
 rw [List.take_zero,k7,ve,GH (by omega),←jO]
 rw [List.take_zero,k7,ve]at h3
 exact⟨_,_,rfl,h3,h2⟩
theorem lq{β' :Type}{p:Rp α}{q' :Rp β'}{x:α×β}{y:γ}{off' :Nat}{x2:β'}(h:qM q q' off u x.2 y x2)(ho:off' =p.sz+off):qM (dI p q) (dI p q') off' u x y (x.1,x2):=fun S cs ds ⟨a,b,e,h1,h2⟩ hd=>by
 have hl:=p.len h1
 have h3:=h S b ds h2 hd
 subst e ho
 refine⟨a,_,?_,h1,h3⟩
 have e1:p.sz+off-a.length=off:=by omega
 have e2:p.sz+off+u.sz-a.length=off+u.sz:=by omega
 rw [List.take_append,List.drop_append,sC (by omega),D5 (by omega),e1,e2]
 simp
theorem H1{α' β' :Type}{p:Rp α}{p' :Rp α'}{f:β→α}{f' :β' →α'}{x:β}{x' :β'}{y:γ}{z:α'}(h:qM p p' off u (f x) y z)(e:f' x' =z):qM (sa p f) (sa p' f') off u x y x' :=fun S cs ds h1 h2=>by
 show p'.rc S _ (f' x')
 rw [e]
 exact h S cs ds h1 h2
section
variable{e:Exit}{ty:TypeId}
theorem At{r' :Rp γ}{x:α}{x' :γ}{y:β}{p v:Operand}(ti:TI E.P U sz bytes agg z)(hsz:q.sz=sz)(hset:qM r r' off q x y x')(hoff:Nat.ble (off+q.sz) r.sz=true)(hp:aO E.N G p (tV (aS b off)))(hv:aO E.N G v (tD q y))(k:RG E ops Q rest (bx r' T b x' ::O) G):RG E ops Q (⟨none,.store U p v,ty,pos,after,none⟩::rest) (bx r T b x::O) G:= .of rfl fun a w S st=>by
 have h1:a.eval p=aS b off:=hp S a st.facts
 obtain⟨ds,h2,h3⟩:=hv S a st.facts
 obtain⟨⟨hno,cur,h5,h6⟩,_⟩:=st.own.1
 have hl:=r.len h6
 have hoff' :=oP hoff
 obtain⟨w',hr,e1,e2,e3,e4,e5,e6⟩:=jW ti hsz h3 h5 (off:=off) (by simp at hl;omega)
 have hrun:(execOp a.eval ⟨none,.store U p v,ty,pos,after,none⟩).run E.P w= .ok .skip w' :=by
  simp [execOp,h1,h2,Instr.storeAt,aS,Instr.sureAddr,hr]
 refine⟨fun c h=>(by cases h),?_⟩
 rw [hrun]
 obtain⟨g1,g2,g3⟩:=pS (O:=O) st.sat (bx r T b x) (bx r' T b x') st.own (fun _=>vi) (fun _=>vi) ⟨e1,e2,e3,e4.1,e4.2⟩ e6 ⟨hno,_,e5,by simpa using hset S _ _ h6 h3⟩ hno
 exact k _ _ S ⟨st.ext.step g1 (fun c hc=>st.own.1.2 c hc),g2,g3,st.facts⟩
end

section
variable{b:Frame}{k:List Item}{cs:List Frame}{F:Fence}
theorem pK:step P (lone (b.atR a (.code (.scope c)::k)) cs w)= .next (lone (b.atR a (.code c:: .inScope c::k)) cs w):=
 step_lone_go (by simp [stepG,stepG.exec,Frame.atR])
theorem F7:step P (lone (b.atR a (.inScope c::k)) cs w)= .next (lone (b.atR a k) cs w):=
 step_lone_go (by simp [stepG,stepG.exec,Frame.atR])
theorem Md(h:c.wpIn F n P (Exit.noGoto Q) a w):(Code.scope c).wpIn F n P Q a w:=by
 intro b k cs hro hb hr
 have h0:(lone (b.atR a (.code (.scope c)::k)) cs w).fenced P F:=fenced_calm hb hr rfl
 obtain⟨e,a₁,w₁,hq,harr⟩:=h b (.inScope c::k) cs hro hb hr
 cases e with
 |normal=>exact⟨.normal,a₁,w₁,hq,.head h0 pK (StepsIn.trans harr (.one (fenced_calm hb hr rfl) F7))⟩
 |exit id=>
  have hx:exitTo id (.inScope c::k)=exitTo id k:=by simp [exitTo]
  exact⟨.exit id,a₁,w₁,hq,fun k' hk=> .head h0 pK (harr.1 k' (by rw [hx];exact hk)),
   fun hr' hk=>let⟨k₁,h1,h2⟩:=harr.2 hr' (by rw [hx];exact hk);⟨k₁,h1,.head h0 pK h2⟩⟩
 |goto l=>exact hq.elim
 |ret=>exact⟨_,a₁,w₁,hq,.of_steps (.one h0 pK) harr⟩
 |panic ch=>exact⟨_,a₁,w₁,hq,.of_steps (.one h0 pK) harr⟩
 |outgrown=>exact⟨_,a₁,w₁,hq,.of_steps (.one h0 pK) harr⟩
end
section
theorem LR(h:CG E (Exit.noGoto Q) c O G):CG E Q (.scope c) O G:=fun a w S st=>Md (h a w S st)
theorem LS{l:Nat}(h:AT E Q .normal O G):CG E Q (.label l) O G:=fun a w S st=>wpIn_label (h a w S st)
theorem y8(h:AT E Q .ret O G):AT E (Exit.noGoto Q) .ret O G:=h
end
end Go.Proofs.YtfhhakidodmdfaaGreatDoor

