/- bS of this claim: W14, W16, W17, W18, W19, W20, W22, W23, W24, W25, W26, W28, W30, W31, W32. -/
import Derived.Test.YtdohlidddcgfjaaGreatFfV1
import Derived.RangeFuncRecord
import Derived.RangeFuncLeaves
import Derived.Laws.StructEq
import Derived.Lib.ConvBytes
import Derived.Lib.AppendZeros
import Derived.Laws.MakeOwn
import Derived.MapKept
import Derived.Scope
import Derived.ChangeKeysEq
set_option linter.all false
namespace Go.Proofs.YtdohlidddcgfjaaGreat
open Go

variable{S:SH}{a:Act}{b:Nat}{e:TypeId}{α β:Type}{k:IntKind}{q:Rp β}{x:Operand}{y:α}
def cC{p:Rp α}:fa (co p q) 0 p (fun x y=>(y,x.2)):=fun S cs x ds y h k=>by
 obtain⟨a,b,e,Y,X⟩:=h
 have hl:=p.len Y
 refine⟨ds,b,?_,k,X⟩
 rw [e,<-hl];simp
variable{off:Nat}{γ:Type}{ae:Rp γ}{u:Unit}
def ay{p:Rp α}{off' :Nat}{u:β->γ->β}(h:fa q off ae u)(ho:off' =p.sz+off):fa (co p q) off' ae (fun x y=>(x.1,u x.2 y)):=fun S cs x ds y V hy=>by
 obtain⟨a,b,e,Y,X⟩:=V
 have hl:=p.len Y
 refine⟨a,b.take off++ds++b.drop (off+ae.sz),?_,Y,h S b x.2 ds y X hy⟩
 rw [e,ho,<-hl,List.take_length_add_append,show a.length+off+ae.sz=a.length+(off+ae.sz)from by omega,List.drop_length_add_append]
 simp
variable{f:FuncId}
def bH{p:Rp α}{q:Rp γ}{u:α->γ->α}{f:β->α}{set:β->γ->β}(h:fa p off q u)(hf: ∀x y,f (set x y)=u (f x) y):fa (na p f) off q set:=fun S cs x ds y V hy=>by
 show p.rc S _ (f (set x y))
 rw [hf]
 exact h S cs (f x) ds y V hy
def jp(P:Program)(T:TypeId):Option (List (Nat×Nat)):=
 match P.underlying T with
 |some (.struct fs)=>fs.toList.mapM fun f=>(P.info? f.type).map fun q=>(f.offset,q.size)
 |_=>none
variable{P:Program}{w:World}
def ED{P:Program}: ∀(fs:List Field) (ps:List (Nat×Nat)) (w:World),fs.mapM (fun f=>(P.info? f.type).map fun q=>(f.offset,q.size))=some ps->
  (fs.mapM (fun f=>do pure (f.offset,<-sizeOf f.type):Field->Sem (Nat×Nat))).run P w= .ok ps w
 |[],ps,w,h=>by
  simp at h;subst h
  simp
 |f::fs,ps,w,h=>by
  simp only [List.mapM_cons]at h ⊢
  cases hq:P.info? f.type with
  |none=>simp [hq]at h
  |some q=>
   cases hr:fs.mapM (fun f=>(P.info? f.type).map fun q=>(f.offset,q.size))with
   |none=>simp [hq,hr]at h
   |some qs=>
    simp [hq,hr]at h
    subst h
    have ih:=ED fs qs w hr
    simp [sizeOf,typeInfo,hq]at ih ⊢
    simp [ih]
variable{E:En}{G:mg}{O:List OE}{T:TypeId}{after:Array Edge}{agg:Bool}{bytes:Nat}{c:Code}{dst:Option Tmp}{g:Option (Nat×Bool)}{i:Nat}{l:Option Nat}{o:Oper}{pos:String}{r:Rp α}{rest:List Oper}{sz:Nat}{z:List Value}
section
variable{ty:TypeId}
def BP(E:En)(G:mg){α:Type}(r:Rp α)(ps:List (Nat×Nat)):α->List (Nat×Operand)->α->Prop
 |x,[],y=>x=y
 |x,(i,o)::rest,y=> ∃(β:Type) (q:Rp β) (set:α->β->α) (off:Nat) (v:β),ps[i]? =some (off,q.sz)/\fa r off q set/\Nat.ble (off+q.sz) r.sz=true/\aJ E.N G o (tD q v)/\BP E G r ps (set x v) rest y
def Ff{α:Type}{r:Rp α}{ps:List (Nat×Nat)}{S:SH}{a:Act}(hF:bS E.N S a G): ∀(parts:List (Nat×Operand)) (x y:α) (cs:List Value),BP E G r ps x parts y->r.rc S cs x->
  ∃ds,r.rc S ds y/\Instr.fill (ps.toArray[·]?) cs.toArray (parts.map fun p=>(p.1,a.eval p.2))=some ds.toArray
 |[],x,y,cs,h,V=>by
  have e:x=y:=h
  subst e
  exact⟨cs,V,rfl⟩
 |(i,o)::rest,x,y,cs,⟨β,q,set,off,v,Y,X,d,h4,h5⟩,V=>by
  obtain⟨c,hv,hc⟩:=h4 S a hF
  have hl:=q.len hc
  have hlr:=r.len V
  have h3' :=sb d
  have hcells:(a.eval o).cells=c.toArray:=by rw [hv];exact vp hc
  obtain⟨ds,h6,h7⟩:=Ff hF rest _ y _ h5 (X S cs x c v V hc)
  refine⟨ds,h6,?_⟩
  have hps:ps.toArray[i]? =some (off,q.sz):=by simpa using Y
  have hs:(a.eval o).cells.size=q.sz:=by rw [hcells];simpa using hl
  have h8:=AP (a.eval o) off (cs.take off) ((cs.drop off).take q.sz) (cs.drop (off+q.sz)) (by rw [hs];simp;omega) (by simp;omega)
  have e1:cs.take off++(cs.drop off).take q.sz++cs.drop (off+q.sz)=cs:=by
   rw [hZ,<-sJ,sL,sL]
  rw [e1]at h8
  simp only [D3,Instr.fill,hps]
  rw [aQ (by simp [hs,hlr];omega),h8,hcells]
  simpa using h7
def eG{x:α}{parts:List (Nat×Operand)}{ps:List (Nat×Nat)}(ti:TI E.P T sz bytes agg z)(hp:jp E.P T=some ps)(hz: ∀S,r.rc S z x)(H:BP E G r ps x parts y)(ha:r.agg=true:=by rfl):
  cu E O G ⟨dst,.build T parts.toArray,ty,pos,after,g⟩ (tD r y):=
 .of_pure fun a w S _ _ hF=>by
  obtain⟨zv,hzr,hzc⟩:=ti.zero w
  obtain⟨ds,Y,X⟩:=Ff hF parts x y z H (hz S)
  unfold jp at hp
  split at hp
  ·rename_i fs hu
   have hpl:=ED fs.toList ps w hp
   have hpl2:(fs.mapM (fun f=>do pure (f.offset,<-sizeOf f.type):Field->Sem (Nat×Nat))).run E.P w= .ok ps.toArray w:=by
    have hfs:fs=fs.toList.toArray:=by simp
    generalize fs.toList=l at hfs hpl
    subst hfs
    rw [List.mapM_toArray,Sem.run_map,hpl]
    rfl
   refine⟨.agg ds.toArray,?_,ds,(sN ha ds).symm,Y⟩
   simp only [execOp,Instr.build,uh,hzr,vl,jt hu,hpl2,hzc]
   have hm:(parts.toArray.map fun(i,x)=>(i,a.eval x)).toList=parts.map fun p=>(p.1,a.eval p.2):=by simp
   rw [hm,X]
   simp
  ·cases hp
end
variable{B:Nat->Prop}{N:Nat}{S0:SH}{U:TypeId}{fn:Func}{w0:World}
section
def LR{k:Nat}{x:α}(hr:fn.results= #[.cell k T])(ti:TI P T sz bytes agg z)(hsz:r.sz=sz)(hag:r.agg=agg)(hk:cw G k=some (dk r x)):
  AT ⟨P,⟨N,[]⟩,B,w0,S0,none⟩ (bodyPost P fn (Lr ⟨P,⟨N,[]⟩,B,w0,S0,none⟩ (tD r x))) .ret O G:=fun a w S st=>by
 obtain⟨b,off,c,U,fr,Y,X,d⟩:=st.facts.at_ k _ hk
 obtain⟨c',h4,h5⟩:=st.sat.part X (r.len d)
 rw [<-h5]at d
 refine⟨st.facts.defers,r.val ((c'.toList.drop off).take r.sz),?_,_,S,rfl,st.ext,st.sat,_,rfl,d⟩
 have hl:=lh ti h4 hsz hag d
 have h1' :a.tmps[k]?.getD undef=Value.pointer (some ⟨b,off,none⟩):=by simpa [HT] using Y
 simp [results,hr,h1',asAddr,hl]
end

def nW(L:List Oper):Nat->Nat->Nat->Bool
 |0,_,_=>false
 |n+1,i,j=>match L[i]? with
  |some o=>o.after.toList.any fun e=>Region.binds .any e&&(Nat.beq e.on j||nW L n e.on j)
  |none=>false
def wK(L:List Oper)(m:Nat):Bool:=(List.range m).all fun j=>nW L L.length m j
def zi(L:List Oper)(n k:Nat):Bool:=(List.range k).all fun m=>wK L (n+m)&&(match L[n+m]? with|some o=>eJ (n+m) o&&o.guard.isNone|none=>false)
variable{L:List Oper}{done:Array Bool}{hi j:Int}{n:Nat}
def gJ{L:List Oper}{done:Array Bool}(down: ∀j o,L[j]? =some o->done.getD j false=true-> ∀e∈o.after,Region.binds .any e=true->done.getD e.on false=true):
  ∀(n i j:Nat),(∀o,L[i]? =some o-> ∀e∈o.after,Region.binds .any e=true->done.getD e.on false=true)->nW L n i j=true->done.getD j false=true
 |0,_,_,_,h=>by cases h
 |n+1,i,j,hi,h=>by
  unfold nW at h
  cases ho:L[i]? with
  |none=>rw [ho]at h;cases h
  |some o=>
   rw [ho]at h
   obtain⟨e,he0,H⟩:=D1.1 h
   have he:e∈o.after:=by simpa using he0
   rw [ly,y7]at H
   have hd:=hi o ho e he H.1
   rcases H.2 with Y|Y
   ·rw [<-pG Y];exact hd
   ·exact gJ down n e.on j (fun p hp=>down e.on p hp hd) Y
variable{S' :SH}{h3:Nat}{t:TypeId}{ts:List Ty}{w' :World}
def DJ.stepT{l:List Oper}(h:DJ E O G l ts done a w S){t:Ty}{v:Value}(hi:l[i]? =some o)(hd:o.dst=some h3)(hdN:h3<E.N.n)(hs2: ∀j p,l[j]? =some p->done.getD j false=true->p.dst=some h3->i=j)(hwait: ∀e∈o.after,Region.binds .any e=true->done.getD e.on false=true)(D:ts[i]? =some t)(hun:done.getD i true=false)(hext:kw um w S w' S')(hsat:mA w' S')(hv:t.p S' v):DJ E O G l ts (done.setIfInBounds i true) (a.put o.dst v) w' S' :=by
 have hda:h3<a.tmps.size:=by rw [h.size];exact hdN
 have hlt:i<done.size:=by rw [h.dsz];exact(sy.1 hi).1
 have hset: ∀j,(done.setIfInBounds i true).getD j false=true->j=i\/done.getD j false=true:=fun j hj=>by
  by_cases hij:i=j
  ·exact .inl hij.symm
  ·rw [wX false hij]at hj;exact .inr hj
 have hseti:(done.setIfInBounds i true).getD i false=true:=by simp [hlt]
 have hun' :done.getD i false=false:=by simp [hlt]at hun ⊢;exact hun
 refine⟨h.ext.step0 hext,hsat,h.own.ext0 hext,?_,?_,by simp [h.dsz],fun j p hj hdone e he H=>?_,fun k u hk hno=>?_,fun j p d' u hj hdone hd' hu=>?_⟩
 ·rw [hd];simp [Act.put,h.size]
 ·rw [hd];exact h.defers
 ·rcases hset j hdone with rfl|hj'
  ·rw [hi]at hj
   have:o=p:=by simpa using hj
   subst this
   exact y6 (hwait e he H)
  ·exact y6 (h.down j p hj hj' e he H)
 ·have hne:h3≠k:=fun e=>hno i o hi hseti (by rw [hd,e])
  rw [hd,uA hda,aQ hne]
  exact u.mono hext.keep (h.old k u hk fun j p hj hdone=>hno j p hj (y6 hdone))
 ·rw [hd,uA hda]
  rcases hset j hdone with rfl|hj'
  ·rw [hi]at hj
   have:o=p:=by simpa using hj
   subst this
   rw [hd]at hd'
   have:h3=d' :=by simpa using hd'
   subst this
   rw [bh rfl]
   rw [D]at hu
   have:t=u:=by simpa using hu
   subst this
   exact hv
  ·have hne:h3≠d' :=fun e=>by
    subst e
    have:=hs2 j p hj hj' hd'
    subst this
    rw [hj']at hun';cases hun'
   rw [aQ hne]
   exact u.mono hext.keep (h.new j p d' u hj hj' hd' hu)
def pn(h:i<done.size):done.getD i true=done.getD i false:=by simp [h]
def uv(h:lU done=0)(hi:i<done.size):done.getD i false=true:=by
 unfold lU at h
 rw [List.countP_eq_zero]at h
 have X:done[i]∈done.toList:=by simp
 have:=h _ X
 rw [<-pn hi]
 simpa [hi] using this
variable{bx:Exit->Act->World->Prop}{m:Nat}{xs:List α}
def zN{r:Option Nat}(hc: ∀m o,n<=m->L[m]? =some o->wK L m=true)(hedge: ∀m o,L[m]? =some o->eJ m o=true):
  ∀(rest:List Oper) (m:Nat) (done:Array Bool) (fuel:Nat) (a:Act) (w:World),n<=m->L.drop m=rest->done.size=L.length->(∀j,j<L.length->(done.getD j false=true↔j<m))->lU done=fuel->
   wpListIn (fw r) 0 P L.toArray bx rest a w->wpAnyIn (fw r) 0 P .any L.toArray bx fuel done a w:=by
 intro rest
 induction rest with
 |nil=>
  intro m done fuel a w hnm hdrop hsz hdone hu h
  have hlen:L.length<=m:=Jz.1 hdrop
  have hr:Region.ready .any L.toArray done=[]:=by
   cases hr:Region.ready .any L.toArray done with
   |nil=>rfl
   |cons i r=>
    have hm:i∈Region.ready .any L.toArray done:=by rw [hr];exact nM ..
    obtain⟨hun,o,ho,_⟩:=tw.1 hm
    have hi:i<L.length:=by simpa using (HS.1 ho).1
    have:=(hdone i hi).2 (by omega)
    rw [pn (by omega)]at hun
    rw [hun]at this;cases this
  cases fuel with
  |zero=>exact⟨hr,h⟩
  |succ f=>exact⟨fun _=>h,fun i hi=>by rw [hr]at hi;cases hi⟩
 |cons o rest ih=>
  intro m done fuel a w hnm hdrop hsz hdone hu h
  have hm:m<L.length:=by
   rcases oc m L.length with h' |h'
   ·exact h'
   ·rw [Jz.2 h']at hdrop;cases hdrop
  have hLm:L[m]? =some o:=by
   have:=vX (xs:=L) (i:=m) (j:=0)
   rw [hdrop]at this
   simpa using this.symm
  have hmu:done.getD m true=false:=by
   have hnot: ¬(done.getD m false=true):=fun X=>by have:=(hdone m hm).1 X;omega
   rw [pn (by omega)]
   exact Ay _▸hnot
  have honly: ∀i∈Region.ready .any L.toArray done,i=m:=by
   intro i hi
   obtain⟨hun,p,hp,hwait⟩:=tw.1 hi
   have hp' :L[i]? =some p:=by simpa using hp
   have hil:i<L.length:=(sy.1 hp').1
   have hid: ¬i<m:=fun hlt=>by
    have X:=(hdone i hil).2 hlt
    rw [pn (by omega)]at hun
    rw [hun]at X;cases X
   rcases oc m i with hlt|hge
   ·exfalso
    have hcov:=hc i p (by omega) hp'
    unfold wK at hcov
    have hre:=kU.1 hcov m (by simpa using hlt)
    have:done.getD m false=true:=by
     refine gJ (L:=L) (done:=done) (fun j q hj hjd e he H=>?_) _ i m (fun q hq e he H=>?_) hre
     ·have hjl:j<L.length:=(sy.1 hj).1
      have hjm:=(hdone j hjl).1 hjd
      have:=hedge j q hj
      unfold eJ at this
      have:=kU.1 this e (by simpa using he)
      simp only [H,sI,uX,uW]at this
      exact(hdone e.on (by omega)).2 (by omega)
     ·have:q=p:=by rw [hp']at hq;simpa using hq.symm
      subst this
      exact hwait e he H
    have:=(hdone m hm).1 this
    omega
   ·omega
  have hready:m∈Region.ready .any L.toArray done:=by
   rw [tw]
   refine⟨hmu,o,by simpa using hLm,fun e he H=>?_⟩
   have:=hedge m o hLm
   unfold eJ at this
   have:=kU.1 this e (by simpa using he)
   simp only [H,sI,uX,uW]at this
   exact(hdone e.on (by omega)).2 this
  cases fuel with
  |zero=>
   have:=uv hu (i:=m) (by omega)
   have:=(hdone m hm).1 this
   omega
  |succ fuel=>
   refine⟨fun hr=>(by rw [hr]at hready;cases hready),fun i hi=>?_⟩
   have:=honly i hi
   subst this
   have hnext:=fun a w=>ih (i+1) (done.setIfInBounds i true) fuel a w (by omega) (by rw [<-sJ,hdrop];rfl) (by simpa using hsz) (fun j hj=>by
    by_cases hij:i=j
    ·subst hij;have:i<done.size:=by omega
     simp [this]
    ·rw [wX false hij,hdone j hj];omega) (by have:=ro hmu;omega)
   unfold wpOpIn
   have hLm' :L.toArray[i]? =some o:=by simpa using hLm
   rw [hLm']
   show if _ then _ else _
   unfold wpListIn at h
   by_cases hw:Region.wanted o (yielded L.toArray a.tmps)=true
   ·rw [bh hw]at h ⊢;exact Oper.wpIn_mono (fun a w hk=>hnext a w hk) h
   ·rw [aQ hw]at h ⊢;exact⟨h.1,hnext _ _ h.2⟩
def JP{l t:List Oper}(hsl:wa E.N.n [] l=true)(hlen:ts.length=l.length)(hd:DR E O G (l++t) ts 0 l)(D:zi (l++t) l.length t.length=true)(hQ: ∀a w S,St E O (MJ l ts G) a w S->wpListIn (fw E.r) 0 E.P (l++t).toArray bx t a w):
  ∀(fuel:Nat) (done:Array Bool) (a:Act) (w:World) (S:SH),lU done=fuel->(∀j,l.length<=j->done.getD j false=false)->DJ E O G (l++t) ts done a w S->wpAnyIn (fw E.r) 0 E.P .any (l++t).toArray bx fuel done a w:=by
 have hL1: ∀i o,i<l.length->(l++t)[i]? =some o->l[i]? =some o:=fun i o hi h=>by rwa [zJ hi]at h
 have hL2: ∀i o,l[i]? =some o->(l++t)[i]? =some o:=fun i o h=>by rw [zJ (sy.1 h).1];exact h
 have htail: ∀m o,l.length<=m->(l++t)[m]? =some o->wK (l++t) m=true/\eJ m o=true:=fun m o hm ho=>by
  have hml:m<(l++t).length:=(sy.1 ho).1
  rw [kj]at hml
  unfold zi at D
  have:=kU.1 D (m-l.length) (by simp;omega)
  rw [show l.length+(m-l.length)=m from by omega,ho]at this
  simp only [ly]at this
  exact⟨this.1,this.2.1⟩
 have hedge: ∀i o,(l++t)[i]? =some o->eJ i o=true:=fun i o hi=>by
  rcases oc i l.length with h|h
  ·obtain⟨_,_,_,_,_,h,_⟩:=DR.get l 0 hd i o (hL1 i o h hi)
   simpa using h
  ·exact(htail i o h hi).2
 obtain⟨hs1,hs2⟩:=xB l [] hsl
 have fin: ∀fuel done a w S,lU done=fuel->(∀j,l.length<=j->done.getD j false=false)->DJ E O G (l++t) ts done a w S->(∀i,i<l.length->done.getD i false=true)->wpAnyIn (fw E.r) 0 E.P .any (l++t).toArray bx fuel done a w:=by
  intro fuel done a w S hu hfree h hall
  refine zN (n:=l.length) (fun m o hm ho=>(htail m o hm ho).1) hedge t l.length done fuel a w (eo _) (by simp) h.dsz (fun j hj=>⟨fun hjd=>?_,fun hlt=>hall j hlt⟩) hu
   (hQ a w S ⟨h.ext,h.sat,h.own,h.size,h.defers,fun j u hj=>?_⟩)
  ·rcases oc j l.length with h' |h'
   ·exact h'
   ·rw [hfree j h']at hjd;cases hjd
  ·rcases Hh l ts j u (fun o ho e=>by obtain⟨h3,hd,_⟩:=hs1 o ho;rw [hd]at e;cases e) hlen hj with⟨i,o,Y,X,d⟩|⟨Y,X⟩
   ·exact h.new i o j u (hL2 i o Y) (hall i (sy.1 Y).1) X d
   ·refine h.old j u Y fun i o ho hdn=>?_
    rcases oc i l.length with h' |h'
    ·exact X o (tu (hL1 i o h' ho))
    ·rw [hfree i h']at hdn;cases hdn
 have lower: ∀done a w S i,(∀j,l.length<=j->done.getD j false=false)->DJ E O G (l++t) ts done a w S->i∈Region.ready .any (l++t).toArray done->l.length<=i-> ∀j,j<l.length->done.getD j false=true:=by
  intro done a w S i hfree h hi hge j hj
  obtain⟨hun,p,hp,hwait⟩:=tw.1 hi
  have hp' :(l++t)[i]? =some p:=by simpa using hp
  have hcov:=(htail i p hge hp').1
  unfold wK at hcov
  have hre:=kU.1 hcov j (by simp;omega)
  exact gJ h.down _ i j (fun q hq e he H=>by
   have:q=p:=by rw [hp']at hq;simpa using hq.symm
   subst this
   exact hwait e he H) hre
 intro fuel
 induction fuel with
 |zero=>
  intro done a w S hu hfree h
  exact fin 0 done a w S hu hfree h fun i hi=>uv hu (by rw [h.dsz,kj];omega)
 |succ fuel ih=>
  intro done a w S hu hfree h
  by_cases hall: ∀i,i<l.length->done.getD i false=true
  ·exact fin _ done a w S hu hfree h hall
  have hready0: ∀m i,i<m->i<l.length->Region.ready .any (l++t).toArray done=[]->done.getD i false=true:=by
   intro m
   induction m with
   |zero=>intro i h;omega
   |succ m ihm=>
    intro i him hil hr
    have his:i<done.size:=by rw [h.dsz,kj];omega
    by_cases hdn:done.getD i true=true
    ·rw [<-pn his];exact hdn
    ·exfalso
     obtain⟨o,ho⟩: ∃o,(l++t)[i]? =some o:=⟨l[i],hL2 i _ (sH hil)⟩
     have hmem:i∈Region.ready .any (l++t).toArray done:=by
      rw [tw]
      refine⟨by simpa using hdn,o,by simpa using ho,fun e he H=>?_⟩
      have:=hedge i o ho
      unfold eJ at this
      have:=kU.1 this e (by simpa using he)
      simp only [H,sI,uX,uW]at this
      exact ihm e.on (by omega) (by omega) hr
     rw [hr]at hmem;cases hmem
  refine⟨fun hr=>absurd (fun i hi=>hready0 (i+1) i (by omega) hi hr) hall,fun i hi=>?_⟩
  have hil:i<l.length:=by
   rcases oc i l.length with h' |h'
   ·exact h'
   ·exact absurd (lower done a w S i hfree h hi h') hall
  obtain⟨hun,o,ho,hwait⟩:=tw.1 hi
  have ho' :(l++t)[i]? =some o:=by simpa using ho
  have hol:=hL1 i o hil ho'
  obtain⟨needs,u,Y,X,d,_,h5⟩:=DR.get l 0 hd i o hol
  rw [vj]at Y d
  have hF:=h.need ho' hun hwait X d
  have h6:=h5 a w S h.sat h.own hF
  have hu' :lU (done.setIfInBounds i true)=fuel:=by have:=ro hun;omega
  obtain⟨h3,hdd,hdN,_⟩:=hs1 o (tu hol)
  have huq: ∀j p,(l++t)[j]? =some p->done.getD j false=true->p.dst=some h3->i=j:=fun j p hj hjd hpd=>by
   rcases oc j l.length with h' |h'
   ·exact hs2 i j o p hol (hL1 j p h' hj) (by rw [hdd,hpd])
   ·rw [hfree j h']at hjd;cases hjd
  have hfree' : ∀j,l.length<=j->(done.setIfInBounds i true).getD j false=false:=fun j hj=>by
   rw [wX false (by omega)];exact hfree j hj
  unfold wpOpIn
  rw [ho]
  show if _ then _ else _
  by_cases hw:Region.wanted o (yielded (l++t).toArray a.tmps)=true
  ·rw [bh hw]at h6 ⊢
   refine lJ (fun a' w' ⟨v,S',ha,he,hs,hv⟩=>?_) h6
   subst ha
   exact ih _ _ _ S' hu' hfree' (h.stepT ho' hdd hdN huq hwait Y hun he hs hv)
  ·rw [aQ hw]at h6 ⊢
   exact⟨fun _ _=>trivial,ih _ _ _ S hu' hfree' (h.stepT ho' hdd hdN huq hwait Y hun (js _ _ _) h.sat h6)⟩
def Ui{id:Nat}{l t:List Oper}(hL:L=l++t)(hm:E.P.follows .mixedOrders=true)(hsl:wa E.N.n [] l=true)(hlen:ts.length=l.length)(D:zi L l.length t.length=true)(hd:DR E O G L ts 0 l)(k:RG E L.toArray bx t O (MJ l ts G)):CG E bx (.region id L.toArray true) O G:=fun a w S st=>by
 subst hL
 refine wpIn_region_any hm ?_
 obtain⟨he,hs⟩:=yC (w:=w) st.sat
 refine JP hsl hlen hd D (fun a w S st=>k a w S st) _ _ _ _ S ?_ (fun j _=>?_)
  ⟨st.ext.step0 he,hs,st.own.ext0 he,st.facts.size,st.facts.defers,by simp,fun j o hj hdone=>?_,fun k t hk _=>st.facts.at_ k t hk,fun j o h3 t hj hdone=>?_⟩
 ·unfold lU;rw [NW,NU];simp
 ·simp [zI];split<;>rfl
 ·simp [zI]at hdone
  split at hdone<;>simp at hdone
 ·simp [zI]at hdone
  split at hdone<;>simp at hdone

abbrev It(α:Type):=(σ:Type)->(α->σ->Option (Bool×σ))->σ->Option σ

variable{base:Nat}
def eD.weak: ∀{O:List OE},eD base B w S O->eD 0 um w S O
 |[],_=>trivial
 |_::_,⟨Y,X,d⟩=>⟨⟨Y.1,fun _ _=> .inl (pL _)⟩,X,eD.weak d⟩
def y3: ∀{O:List OE},eD 0 um w S O->(∀f∈O,∀k,f.fp k->base<=k\/B k)->eD base B w S O
 |[],_,_=>trivial
 |_::_,⟨Y,X,d⟩,h=>⟨⟨Y.1,h _ (nM ..)⟩,X,y3 d fun f hf=>h f (pK _ hf)⟩
section
variable{ty:TypeId}
end
def OT:List OE->List OE->Prop
 |[],_=>True
 |f::O,g::O' =>(∀k,f.fp k->g.fp k)/\OT O O'
 |_::_,[]=>False
def OT.mem: ∀{O O' :List OE},OT O O' -> ∀k,(∃f∈O,f.fp k)-> ∃f∈O',f.fp k
 |f::O,g::O',⟨Y,X⟩,k,⟨q,hq,hk⟩=>by
  rcases jl.1 hq with e|e
  ·subst e;exact⟨g,nM ..,Y k hk⟩
  ·obtain⟨q',d,h4⟩:=OT.mem X k ⟨q,e,hk⟩
   exact⟨q',pK _ d,h4⟩

variable{O1:List OE}{ι:Type}{O2:ι->List OE}
def qC: ∀{O1 O2:List OE},eD base B w S (O1++O2)->eD base B w S O1/\eD base B w S O2/\ ∀e∈O1,∀f∈O2,e.apart f
 |[],_,h=>⟨trivial,h,fun _ h=>(by cases h)⟩
 |e::O1,O2,⟨Y,X,d⟩=>by
  obtain⟨k1,k2,k3⟩:=qC d
  refine⟨⟨Y,fun f hf=>X f (D8 _ hf),k1⟩,k2,fun g K f hf=>?_⟩
  rcases jl.1 K with rfl|K
  ·exact X f (List.mem_append_right _ hf)
  ·exact k3 g K f hf
section
section
variable{ty:TypeId}
end
end


section
variable{R:Ending->World->Prop}{ds:List Deferred}
end
def rT(t:Ty):Rp Unit where
 sz:=1
 agg:=false
 rc:=fun S cs _=> ∃v,cs=[v]/\v.oneCell' =true/\t.p S v
 mono:=fun h ⟨v,e,k,l⟩=>⟨v,e,k,t.mono h l⟩
 len:=fun⟨_,e,_⟩=>by rw [e];rfl
 one:=fun⟨v,e,k,_⟩ c hc=>by rw [e]at hc;simp at hc;subst hc;exact k
 sc:=fun _=>rfl
def tRT{t:Ty}{v:Value}:(tD (rT t) u).p S v↔v.oneCell' =true/\t.p S v:=by
 constructor
 ·rintro⟨cs,rfl,w,rfl,Y,X⟩;exact⟨Y,X⟩
 ·rintro⟨Y,X⟩;exact⟨[v],rfl,v,rfl,Y,X⟩
variable{cap:Nat}{get:α->β}{k' :IntKind}{lo:Int}{ys:List α}
section
variable{ty:TypeId}
def cu.imp{t u:Ty}(h:cu E O G o t)(k: ∀S v,t.p S v->u.p S v):cu E O G o u:=fun a w S hs ho hf=>
 ph (fun _ _ ⟨v,S',Y,X,d,h4⟩=>⟨v,S',Y,X,d,k S' v h4⟩) (h a w S hs ho hf)
def KJ{t:Ty}{p:Operand}(ti:TI E.P U 1 bytes false z)(hp:aJ E.N G p (dk (rT t) ())):cu E O G ⟨dst,.load U p,ty,pos,after,g⟩ t:=
 (kK (r:=rT t) (x:=()) ti rfl rfl hp).imp fun _ _ h=>(tRT.1 h).2

def Iy:rV.rc S [.slice none 0 0] (av none 0 0):=⟨rfl,rfl⟩
def KX{N:Fr}(h:aJ N G x (Z (av l cap n))):aJ N G x (tD rV (av l cap n)):=fun S a hf=>yE.2 ⟨h S a hf,by cases l<;>rfl⟩
def pR{p:Operand}(ti:TI E.P U 1 bytes false z)(hm:Q rV T b (av l cap n)∈O)(hp:aJ E.N G p (Z (M b 0))):
  cu E O G ⟨dst,.load U p,ty,pos,after,g⟩ (Z (av l cap n)):=(aE (q:=rV) (get:=fun x=>x) ti rfl rfl bo hm hp).imp fun _ _ h=>(yE.1 h).1

def dQ{α:Type}(xs:List α)(lo hi:Int):Option (List α):=if 0<=lo/\lo<=hi/\hi<=(xs.length:Int)then some ((xs.take hi.toNat).drop lo.toNat)else none
def fW(h:dQ xs lo hi=some ys): ∃l m:Nat,lo=l/\hi=m/\l<=m/\m<=xs.length/\ys=(xs.take m).drop l:=by
 unfold dQ at h
 split at h
 ·rename_i hc
  exact⟨lo.toNat,hi.toNat,by omega,by omega,by omega,by omega,by simpa using h.symm⟩
 ·cases h
def wb{a:Option Addr}{l:Nat}(h:GO r S a xs)(hl:l<=m)(hm:m<=xs.length)(hc:xs.length<=cap):
  GO r S (if cap=l then a else a.map (·.add (l*r.sz))) ((xs.take m).drop l):=by
 by_cases hlm:l=m
 ·left;subst hlm;simp
 right
 rcases h with h|⟨b,off,c,T,fr,e1,e2,e3⟩
 ·subst h;simp at hm;omega
 subst e1
 have hne: ¬(cap=l):=by omega
 refine⟨b,off+l*r.sz,c,T,fr,?_,e2,?_⟩
 ·rw [aQ hne];simp [Addr.add]
 have hlen:((xs.take m).drop l).length=m-l:=by simp;omega
 have e4:xs=(xs.take m).take l++((xs.take m).drop l++xs.drop m):=by
  rw [<-hZ,sL,sL]
 have Y:((xs.take m).take l).length=l:=by simp;omega
 rw [e4]at e3
 have X:=(qq e3).2
 have d:=(qq X).1
 rw [Y]at d
 rw [hlen]at d ⊢
 rw [<-e4]at d
 rw [zf,Ax,sJ]at d
 have hmin:min ((m-l)*r.sz) (xs.length*r.sz-l*r.sz)=(m-l)*r.sz:=by
  rw [<-Nat.sub_mul];exact xq (AC _ (by omega))
 rwa [hmin]at d
def jS{n:Int}{y:Nat}{code:BoundsCode}(h0:0<=n)(Y:n<=y):(Instr.sliceBound (.int k n) y code).run P w= .ok n.toNat w:=by
 simp [Instr.sliceBound,asIntOf,h0,Y]
def z7{hi:Operand}(D:E.P.underlying t=some (.slice T))(ti:TI E.P T sz bytes agg z)(hsz:r.sz=sz)(V:aJ E.N G x (tD (ga r) xs))(hhi:aJ E.N G hi (tD (rI k') j))(h:dQ xs 0 j=some ys):cu E O G ⟨dst,.slice t x none (some hi) none,ty,pos,after,g⟩ (tD (ga r) ys):=
 .of_pure fun a w S _ _ hf=>by
  subst hsz
  obtain⟨ad,cap,Y,X,d,h4⟩:=j6.1 (V S a hf)
  have h6:=dI.1 (hhi S a hf)
  obtain⟨l,m,hl,rfl,h7,h8,rfl⟩:=fW h
  have hl0:l=0:=by omega
  subst hl0
  have hlen:((xs.take m).drop 0).length=m-0:=by simp;omega
  refine⟨.slice (if cap=0 then ad else ad.map (·.add (0*r.sz))) (m-0) (cap-0),?_,j6.2 ⟨_,cap-0,by rw [hlen],by omega,by omega,wb h4 h7 h8 X⟩⟩
  simp [execOp,Instr.sliceAt,Y,h6,Instr.slice,jt D,Instr.sliceBounds,jS (k:=k') (n:=(m:Int)) (y:=cap) (by omega) (by omega),ti.sizeOf]
def MN{lo:Operand}{i:Int}(D:E.P.underlying t=some (.slice T))(ti:TI E.P T sz bytes agg z)(hsz:r.sz=sz)(V:aJ E.N G x (tD (ga r) xs))(hlo:aJ E.N G lo (tD (rI k) i))(h:dQ xs i (xs.length:Int)=some ys):cu E O G ⟨dst,.slice t x (some lo) none none,ty,pos,after,g⟩ (tD (ga r) ys):=
 .of_pure fun a w S _ _ hf=>by
  subst hsz
  obtain⟨ad,cap,Y,X,d,h4⟩:=j6.1 (V S a hf)
  have h5:=dI.1 (hlo S a hf)
  obtain⟨l,m,rfl,hm,h7,h8,rfl⟩:=fW h
  have hm' :m=xs.length:=by omega
  subst hm'
  have hlen:((xs.take xs.length).drop l).length=xs.length-l:=by simp
  refine⟨.slice (if cap=l then ad else ad.map (·.add (l*r.sz))) (xs.length-l) (cap-l),?_,j6.2 ⟨_,cap-l,by rw [hlen],by omega,by omega,wb h4 h7 h8 X⟩⟩
  simp [execOp,Instr.sliceAt,Y,h5,Instr.slice,jt D,Instr.sliceBounds,jS (k:=k) (n:=(l:Int)) (y:=xs.length) (by omega) (by omega),ti.sizeOf]
end
def sx{id:Nat}(m:Nat)(hm:E.P.follows .mixedOrders=true)(hsl:wa E.N.n [] (L.take m)=true)(hlen:ts.length=(L.take m).length)(D:zi L (L.take m).length (L.drop m).length=true)(hd:DR E O G L ts 0 (L.take m))(k:RG E L.toArray bx (L.drop m) O (MJ (L.take m) ts G)):CG E bx (.region id L.toArray true) O G:=Ui (sL m L).symm hm hsl hlen D hd k

def lA(P:Program){α:Type} [DecidableEq α](t:TypeId)(r:Rp α)(n:Nat):Prop:=
 ∀(S:SH) (cs ds:List Value) (x y:α) (h3:Nat) (w:World),r.rc S cs x->r.rc S ds y->(Op.equalIn (h3+n) t (r.val cs) (r.val ds)).run P w= .ok (decide (x=y)) w
def r0(h:P.underlying t=some (.int k')):lA P t (rI k) (n+1):=fun S cs ds x y h3 w V hy=>by
 have Y:cs=[.int k x]:=V
 have X:ds=[.int k y]:=hy
 subst Y X
 have:(Op.equalIn (h3+n+1) t (.int k x) (.int k y)).run P w= .ok (x==y) w:=by simp [Op.equalIn,jt h]
 have e:(x==y)=decide (x=y):=by by_cases h:x=y<;>simp [h]
 rw [e]at this
 exact this
def TN(h:P.underlying t=some .bool):lA P t rB (n+1):=fun S cs ds x y h3 w V hy=>by
 have Y:cs=[.bool x]:=V
 have X:ds=[.bool y]:=hy
 subst Y X
 have:=run_equalIn_bool' (P:=P) w (h3+n) t x y h
 simp only [Rp.val,rB,List.headD_cons,oj,lI]
 rw [show h3+(n+1)=h3+n+1 from rfl,this]
 cases x<;>cases y<;>rfl
def Wg(h:P.underlying t=some .string):lA P t rS (n+1):=fun S cs ds x y h3 w V hy=>by
 have Y:cs=[.string ⟨x.toArray⟩]:=V
 have X:ds=[.string ⟨y.toArray⟩]:=hy
 subst Y X
 have:=run_equalIn_string (P:=P) w (h3+n) t ⟨x.toArray⟩ ⟨y.toArray⟩ h
 simp only [Rp.val,rS,List.headD_cons,oj,lI]
 rw [show h3+(n+1)=h3+n+1 from rfl,this]
 simp only [ByteArray.toList_eq]
 by_cases e:x=y<;>simp [e]
abbrev Fd:=TypeId×Nat×Bool
def M8(f:Field):Fd:=(f.type,f.offset,f.name== "_")
def QQ(h3:Nat)(xs ys:Array Value):List Fd->Sem Bool
 |[]=>pure true
 |f::fs=>
  if f.2.2=false then do
   let a<-part f.1 xs f.2.1
   let b<-part f.1 ys f.2.1
   let r<-Op.equalIn h3 f.1 a b
   if(!r)=true then pure false else QQ h3 xs ys fs
  else QQ h3 xs ys fs
def Lq(h3:Nat)(xs ys:Array Value): ∀fs:List Field,Op.eqFields h3 xs ys fs=QQ h3 xs ys (fs.map M8)
 |[]=>rfl
 |f::fs=>by
  unfold Op.eqFields QQ
  rw [Lq h3 xs ys fs]
  by_cases h:f.name= "_"
  ·have e:((M8 f).2.2=false)=False:=by simp [M8,h]
   simp only [D3,e,lI]
   rw [aQ (by simpa using h)]
  ·have e:((M8 f).2.2=false)=True:=by simp [M8,h]
   simp only [D3,e,jR]
   rw [bh (by simpa using h)]
   rfl
def HH(P:Program){α:Type}(r:Rp α)(n:Nat)(fs:List Fd)(c:α->α->Bool):Prop:=
 ∀(S:SH) (cs ds:List Value) (x y:α) (h3:Nat) (w:World),r.rc S cs x->r.rc S ds y->(QQ (h3+n) cs.toArray ds.toArray fs).run P w= .ok (c x y) w
def HH.nil:HH P r n [] (fun _ _=>true):=fun _ _ _ _ _ _ _ _ _=>rfl
def sV(ti:TI P t sz bytes agg z)(hsz:q.sz=sz)(hag:q.agg=agg)(hf:lH r off q get){cs:List Value}{x:α}(V:r.rc S cs x)(w:World):
  (part t cs.toArray off).run P w= .ok (q.val ((cs.drop off).take q.sz)) w:=by
 have h:=hf S cs x V
 have hl:=q.len h
 subst hsz hag
 unfold part
 by_cases ha:q.agg=true
 ·have e1:=ti.isAgg w
  simp only [uh,e1,ha,vl,jR,ti.sizeOf,Sem.run_pure]
  unfold Rp.val
  rw [bh ha]
  congr 2
  apply Array.ext'
  simp
 ·rw [Ay]at ha
  have e1:=ti.isAgg w
  have hs1:=q.sc ha
  simp only [uh,e1,ha,vl,oj,lI]
  rw [hs1]at hl ⊢
  obtain⟨v,hv⟩:=List.length_eq_one_iff.1 hl
  have hc:cs[off]? =some v:=by
   have:((cs.drop off).take 1)[0]? =some v:=by rw [hv];rfl
   rw [y9 (by omega),vX]at this
   simpa using this
  unfold Rp.val
  rw [hv,ha]
  simp [hc]
def HH.cons [DecidableEq β]{t:Nat}{fs:List Fd}{c:α->α->Bool}(ti:TI P t sz bytes agg z)(hsz:q.sz=sz)(hag:q.agg=agg)(hf:lH r off q get)(he:lA P t q n)(hr:HH P r n fs c):
  HH P r n ((t,off,false)::fs) (fun x y=>decide (get x=get y)&&c x y):=fun S cs ds x y h3 w V hy=>by
 have Y:=sV ti hsz hag hf V w
 have X:=sV ti hsz hag hf hy w
 have d:=he S _ _ _ _ h3 w (hf S cs x V) (hf S ds y hy)
 unfold QQ
 simp only [jR,uh,Y,X,d,vl]
 by_cases e:get x=get y
 ·simp only [e,decide_true,sI,oj,lI,nN]
  exact hr S cs ds x y h3 w V hy
 ·simp [e]
def Ao [DecidableEq α]{t:Nat}{fs:List Fd}{c:α->α->Bool}(D:(P.underlying t).map (fun h3=>match h3 with| .struct l=>(true,l.toList.map M8)|_=>(false,[]))=some (true,fs))(hp:P.stoodInHeld t=false)(ha:r.agg=true)(hr:HH P r n fs c)(hc: ∀x y,c x y=decide (x=y)):lA P t r (n+1):=fun S cs ds x y h3 w V hy=>by
 obtain⟨l,Y,X⟩: ∃l,P.underlying t=some (.struct l)/\l.toList.map M8=fs:=by
  cases hu:P.underlying t with
  |none=>rw [hu]at D;cases D
  |some h3=>
   rw [hu]at D
   cases h3<;>simp at D
   exact⟨_,rfl,D⟩
 have hfo:P.fieldsOf t=l:=by unfold Program.fieldsOf;rw [Y]
 have:=run_equalIn_struct (P:=P) w (h3+n) t cs.toArray ds.toArray (by rw [hfo];exact Y) hp
 rw [sN ha,sN ha,show h3+(n+1)=h3+n+1 from rfl,this,hfo,Lq,X,hr S cs ds x y h3 w V hy,hc]
def kE [DecidableEq α](h:lA P t r n)(m:Nat):lA P t r (m+n):=fun S cs ds x y h3 w V hy=>by
 have:=h S cs ds x y (h3+m) w V hy
 rwa [Nat.add_assoc]at this
def LU.of [DecidableEq α](K:P.eqGuardType P.depth t=false)(h:lA P t r 20):LU P t r:=⟨K,fun S cs ds x y h3 w V hy=>h S cs ds x y h3 w V hy⟩

def TU{l:List α}{e:α}(h:xs.drop i=e::l):decide ((i:Int)<(xs.length:Int))=true:=by
 have:i<xs.length:=by
  rcases oc i xs.length with h' |h'
  ·exact h'
  ·rw [FU h']at h;cases h
 simp;omega
def Xh(h:xs.drop i=[]):decide ((i:Int)<(xs.length:Int))=false:=by
 have:=Jz.1 h
 simp;omega
def dZ{l:List α}{e:α}(h:xs.drop i=e::l):xs.drop (i+1)=l:=by
 rw [<-sJ,h];rfl
def eK{l:List α}{e:α}(h:xs.drop i=e::l):gV xs (i:Int)=some e:=by
 rw [eU]
 have:=vX (xs:=xs) (i:=i) (j:=0)
 rw [h]at this
 simpa using this.symm
def Xg{l:List α}{e:α}(h:xs.drop i=e::l)(hN:xs.length<=maxLen):i<9223372036854775807:=by
 have:=of_decide_eq_true (TU h)
 simp only [maxLen]at hN
 omega
def aaK{k:Nat}(h:N-i=k+1):decide ((i:Int)<(N:Int))=true:=by simp;omega
def aaL(h:N-i=0):decide ((i:Int)<(N:Int))=false:=by simp;omega
def Yn{k:Nat}(h:N-i=k+1):N-(i+1)=k:=by omega
def Yo{k:Nat}(h:N-i=k+1)(hN:N<=9223372036854775807):i<9223372036854775807:=by omega
def aaN(h:n<=maxLen):n<=9223372036854775807:=by simp only [maxLen]at h;omega
variable{ix:Operand}{mm:Bool}{ops:Array Oper}{zs:List α}
section
variable{e:Exit}
section
variable{ty:TypeId}
def DD{one:Operand}{xt yt:TypeId}(hi:i<9223372036854775807)(V:aJ E.N G x (tD (rI .i64) (i:Int)))(Y:aJ E.N G one (tD (rI .i64) 1)):
  cu E O G ⟨dst,.binOp .add xt x one yt,ty,pos,after,g⟩ (tD (rI .i64) ((i+1:Nat):Int)):=by
 have e:IntKind.i64.wrap ((i:Int)+1)=((i+1:Nat):Int):=by
  rw [rl];omega
 have:=fY (E:=E) (O:=O) (dst:=dst) (ty:=ty) (pos:=pos) (after:=after) (g:=g) (xt:=xt) (yt:=yt) V Y
 rwa [e]at this
end
def BT(hm:ml mm r T l cap xs∈O)(h:xs.length<=maxLen->CG E bx c O G):CG E bx c O G:=fun a w S st=>by
 refine h ?_ a w S st
 obtain⟨cells,Y,_⟩:=(st.own.mem _ hm).1
 cases l with
 |none=>have:=Y.1;omega
 |some b=>obtain⟨cur,_,g2,g3,_⟩:=Y;exact ze g2 g3
def St.dataAt{k:Nat}(h:St E O G a w S)(hk:cw G k=some (tO r l cap xs)):St E O ((k,tD (ga r) xs)::G) a w S:=h.cons (h.facts.at_ k _ hk).2
def Rg(k:Nat)(hk:cw G k=some (tO r l cap xs))(h:CG E bx c O ((k,tD (ga r) xs)::G)):CG E bx c O G:=fun a w S st=>h a w S (st.dataAt hk)
def fd(k:Nat)(hk:cw G k=some (tO r l cap xs))(h:AT E bx e O ((k,tD (ga r) xs)::G)):AT E bx e O G:=fun a w S st=>h a w S (st.dataAt hk)
def Ap(l:Option Nat)(off:Nat):Value:=
 match l with
 |none=> .pointer none
 |some b=>M b off
def xM(h:As mm r T l cap xs w S){e:α}(hi:xs[i]? =some e):
  ∃b cur,l=some b/\w.heap[b]? =some (.cells cur T (0,0))/\xs.length<=cap/\cur.size=cap*r.sz/\r.rc S ((cur.toList.drop (i*r.sz)).take r.sz) e:=by
 obtain⟨cells,Y,X,_⟩:=h
 have hlt:=(sy.1 hi).1
 cases l with
 |none=>have:=Y.1;omega
 |some b=>
  obtain⟨cur,g1,g2,g3,g4,g5⟩:=Y
  refine⟨b,cur,rfl,g1,g2,g4,?_⟩
  have d:=A1 X hi
  rw [<-g5,zf,Ax]at d
  have h4:i*r.sz+r.sz<=xs.length*r.sz:=by
   rw [<-Nat.succ_mul];exact AC _ hlt
  rwa [xq (by omega)]at d
def nq{i:Int}{e:α}(h:gV xs i=some e):0<=i/\xs[i.toNat]? =some e:=by
 unfold gV at h
 split at h
 ·exact⟨by assumption,h⟩
 ·cases h
section
variable{ty:TypeId}
def gA{e:TypeId}{i:Int}(D:E.P.underlying t=some (.slice e))(ti:TI E.P e sz bytes agg z)(hm:ml mm r U l cap xs∈O)(V:aJ E.N G x (Z (av l cap n)))(hi:aJ E.N G ix (tD (rI k) i))(hy:gV xs i=some y)(hn:n=xs.length:=by rfl):
  cu E O G ⟨dst,.indexAddr t x ix,ty,pos,after,g⟩ (Z (Ap l (i.toNat*sz+0))):=
 .of_pure fun a w S _ ho hf=>by
  subst hn
  have Y:a.eval x=av l cap xs.length:=V S a hf
  have d:a.eval ix= .int k i:=dI.1 (hi S a hf)
  obtain⟨h0,hy'⟩:=nq hy
  obtain⟨b,cur,rfl,_⟩:=xM (ho.mem _ hm).1 hy'
  have hlt:i.toNat<xs.length:=(sy.1 hy').1
  refine⟨_,?_,rfl⟩
  have hc:0<=i/\i<(xs.length:Int):=⟨h0,by omega⟩
  simp [execOp,Y,d,av,Instr.indexAt,asIntOf,jt D,hc,ti.sizeOf,jq,Ap,M]
def mN{foff:Nat}{i:Int}{p:Operand}(ti:TI E.P T sz bytes agg z)(hsz:q.sz=sz)(hag:q.agg=agg)(hget:lH r foff q get)(hoff:Nat.ble (foff+q.sz) r.sz=true)(hm:ml mm r U l cap xs∈O)(hy:gV xs i=some y)(hp:aJ E.N G p (Z (Ap l (i.toNat*r.sz+foff)))):cu E O G ⟨dst,.load T p,ty,pos,after,g⟩ (tD q (get y)):=
 .of_pure fun a w S _ ho hf=>by
  have Y:a.eval p=Ap l (i.toNat*r.sz+foff):=hp S a hf
  obtain⟨h0,hy'⟩:=nq hy
  obtain⟨b,cur,rfl,H,_,_,h6⟩:=xM (ho.mem _ hm).1 hy'
  have hoff' :=sb hoff
  have h7:=hget S _ _ h6
  rw [zf,Ax,sJ,xq (by omega)]at h7
  refine⟨_,?_,_,rfl,h7⟩
  simp [execOp,Y,Ap,M,Instr.loadAt,Instr.sureAddr,lh ti H hsz hag h7]
end
def Dy{α:Type}{r:Rp α}{S:SH}{y:α}{c:List Value}(hc:r.rc S c y): ∀{xs:List α} {i:Nat} {cs:List Value},rh r S cs xs->i<xs.length->rh r S (cs.take (i*r.sz)++c++cs.drop (i*r.sz+r.sz)) (xs.set i y)
 |[],_,_,_,h=>by simp at h
 |x::xs,0,cs,⟨a,b,e,Y,X⟩,_=>by
  have hl:=r.len Y
  refine⟨c,b,?_,hc,X⟩
  rw [e,<-hl];simp
 |x::xs,i+1,cs,⟨a,b,e,Y,X⟩,h=>by
  have hl:=r.len Y
  have ih:=Dy hc X (i:=i) (by simpa using h)
  refine⟨a,_,?_,Y,ih⟩
  have e1:(i+1)*r.sz=a.length+i*r.sz:=by rw [hl,xo];omega
  rw [e,e1,List.take_length_add_append,Nat.add_assoc,List.drop_length_add_append]
  simp
def yZ{set:α->β->α}{foff:Nat}{v:β}{i:Int}{p:Operand}{ty:TypeId}(ti:TI E.P T sz bytes agg z)(hsz:q.sz=sz)(hset:fa r foff q set)(hoff:Nat.ble (foff+q.sz) r.sz=true)(hy:gV xs i=some y)(hz:xs.set i.toNat (set y v)=zs)(hp:aJ E.N G p (Z (Ap l (i.toNat*r.sz+foff))))(V:aJ E.N G x (tD q v))(k:RG E ops bx rest (dr r U l cap zs::O) G):
  RG E ops bx (⟨none,.store T p x,ty,pos,after,none⟩::rest) (dr r U l cap xs::O) G:= .of rfl fun a w S st=>by
 subst hz
 have Y:a.eval p=Ap l (i.toNat*r.sz+foff):=hp S a st.facts
 obtain⟨ds,X,d⟩:=V S a st.facts
 obtain⟨h0,hy'⟩:=nq hy
 have hlt:i.toNat<xs.length:=(sy.1 hy').1
 obtain⟨cells,hraw,hrc,hno⟩:=st.own.1.1
 obtain⟨b,cur,rfl,H,hle,hcs,h6⟩:=xM st.own.1.1 hy'
 obtain⟨cur',hb',hle',hmax,hcs',hct⟩:=hraw
 have hcc:cur' =cur:=by rw [H]at hb';injection hb' with e;injection e with e1;exact e1.symm
 subst hcc
 have hno' :S b=none:=hno b rfl
 have hoff' :=sb hoff
 have hl3:=q.len d
 have hmul:i.toNat*r.sz+r.sz<=xs.length*r.sz:=by rw [<-Nat.succ_mul];exact AC _ hlt
 have hmul2:xs.length*r.sz<=cur'.size:=by rw [hcs];exact AC _ hle
 obtain⟨w',hr,e1,e2,e3,e4,e5,e6⟩:=km ti hsz d H (off:=i.toNat*r.sz+foff) (by omega)
 have hrun:(execOp a.eval ⟨none,.store T p x,ty,pos,after,none⟩).run E.P w= .ok .skip w' :=by
  simp [execOp,Y,X,Instr.storeAt,Ap,M,Instr.sureAddr,hr]
 refine⟨fun c h=>(by cases h),?_⟩
 rw [hrun]
 have hnew:=hset S _ _ _ _ h6 d
 have hrc' :=Dy hnew hrc hlt
 have hcl:=kI hrc
 have hcells:(cur'.toList.take (i.toNat*r.sz+foff)++ds++cur'.toList.drop (i.toNat*r.sz+foff+q.sz)).take (xs.length*r.sz)=
   cells.take (i.toNat*r.sz)++(((cur'.toList.drop (i.toNat*r.sz)).take r.sz).take foff++ds++((cur'.toList.drop (i.toNat*r.sz)).take r.sz).drop (foff+q.sz))++cells.drop (i.toNat*r.sz+r.sz):=by
  subst hct
  apply List.ext_getElem?
  intro j
  simp only [List.getElem?_take,List.getElem?_append,vX,DZ,Dd,kj,CM]
  rcases oc j (xs.length*r.sz)with hj|hj
  ·simp only [hj,jR]
   rcases oc j (i.toNat*r.sz)with hj1|hj1
   ·rw [bh (by omega),bh (by omega),bh (by omega),bh (by omega),bh (by omega),bh (by omega)]
   ·rcases oc j (i.toNat*r.sz+foff)with hj2|hj2
    ·rw [bh (by omega),bh (by omega),bh (by omega),bh (by omega),aQ (by omega),bh (by omega),bh (by omega),bh (by omega),bh (by omega)]
     congr 1;omega
    ·rcases oc j (i.toNat*r.sz+foff+q.sz)with hj3|hj3
     ·rw [bh (by omega),aQ (by omega),bh (by omega),aQ (by omega),bh (by omega),aQ (by omega)]
      congr 1;omega
     ·rw [aQ (by omega)]
      rcases oc j (i.toNat*r.sz+r.sz)with hj4|hj4
      ·rw [bh (by omega),aQ (by omega),aQ (by omega),bh (by omega)]
       congr 1;omega
      ·rw [aQ (by omega),bh (by omega)]
       congr 1;omega
  ·rw [aQ (by omega),aQ (by omega),aQ (by omega)]
 obtain⟨g1,g2,g3⟩:=ny (O:=O) st.sat (dr r U (some b) cap xs) (dr r U (some b) cap (xs.set i.toNat (set y v))) st.own (fun k=>⟨fun h=>(qE h).symm,fun h=>by rw [h];rfl⟩) (fun k=>⟨fun h=>(qE h).symm,fun h=>by rw [h];rfl⟩) ⟨e1,e2,e3,e4.1,e4.2⟩ e6
  ⟨_,⟨_,e5,by rw [BX];exact hle,hmax,by simp only [Gw,kj,DZ,Dd,CM];omega,by rw [BX];exact hcells⟩,hrc',fun k hk=>by rw [<-qE hk];exact hno'⟩ hno'
 exact k _ _ S ⟨st.ext.step g1 (fun c hc=>st.own.1.2 c (by rw [hc];rfl)),g2,g3,st.facts⟩

def nP(sz:Nat)(l:Option Nat)(cap lo n:Nat):Value:=
 match l with
 |none=> .slice none 0 0
 |some b=> .slice (some ⟨b,if cap=lo then 0 else lo*sz,none⟩) n (cap-lo)
section
variable{ty:TypeId}
def G9(h:As mm r U l cap xs w S): ∃ad c,av l cap xs.length= .slice ad xs.length c/\xs.length<=c/\ad=l.map (fun b=>⟨b,0,none⟩)/\(l=none->c=0/\xs=[])/\(l≠none->c=cap):=by
 obtain⟨cells,Y,_⟩:=h
 cases l with
 |none=>
  have V:xs=[]:=sd Y.1
  subst V
  exact⟨none,0,rfl,eo _,rfl,fun _=>⟨rfl,rfl⟩,fun h=>absurd rfl h⟩
 |some b=>
  obtain⟨cur,_,g2,_⟩:=Y
  exact⟨_,cap,rfl,g2,rfl,fun h=>(by cases h),fun _=>rfl⟩
def oD{hi:Operand}(D:E.P.underlying t=some (.slice T))(ti:TI E.P T sz bytes agg z)(hsz:r.sz=sz)(hm:ml mm r U l cap xs∈O)(V:aJ E.N G x (Z (av l cap n)))(hhi:aJ E.N G hi (tD (rI k') j))(h:dQ xs 0 j=some ys)(hn:n=xs.length:=by rfl):cu E O G ⟨dst,.slice t x none (some hi) none,ty,pos,after,g⟩ (Z (av l cap ys.length)):=
 .of_pure fun a w S _ ho hf=>by
  subst hsz
  subst hn
  have Y:a.eval x=av l cap xs.length:=V S a hf
  obtain⟨ad,c,X,d,h4,h5,h5'⟩:=G9 (ho.mem _ hm).1
  have h6:=dI.1 (hhi S a hf)
  obtain⟨lo,m,hl,rfl,h7,h8,rfl⟩:=fW h
  have hl0:lo=0:=by omega
  subst hl0
  have hlen:((xs.take m).drop 0).length=m:=by simp;omega
  refine⟨_,?_,rfl⟩
  rw [X]at Y
  have hr:(execOp a.eval ⟨dst,.slice t x none (some hi) none,ty,pos,after,g⟩).run E.P w= .ok (.value (.slice ad m c)) w:=by
   simp [execOp,Instr.sliceAt,Y,h6,Instr.slice,jt D,Instr.sliceBounds,jS (k:=k') (n:=(m:Int)) (y:=c) (by omega) (by omega),ti.sizeOf]
   cases ad<;>simp [Addr.add]
  rw [hr,hlen,h4]
  cases l with
  |none=>
   obtain⟨rfl,rfl⟩:=h5 rfl
   have:m=0:=by simpa using h8
   subst this;rfl
  |some b=>rw [h5' (by simp)];rfl
def qt{lo:Operand}{i:Int}(D:E.P.underlying t=some (.slice T))(ti:TI E.P T sz bytes agg z)(hsz:r.sz=sz)(hm:ml mm r U l cap xs∈O)(V:aJ E.N G x (Z (av l cap n)))(hlo:aJ E.N G lo (tD (rI k) i))(h:dQ xs i (xs.length:Int)=some ys)(hn:n=xs.length:=by rfl):cu E O G ⟨dst,.slice t x (some lo) none none,ty,pos,after,g⟩ (Z (nP sz l cap i.toNat ys.length)):=
 .of_pure fun a w S _ ho hf=>by
  subst hsz
  subst hn
  have Y:a.eval x=av l cap xs.length:=V S a hf
  obtain⟨ad,c,X,d,h4,h5,h5'⟩:=G9 (ho.mem _ hm).1
  have h6:=dI.1 (hlo S a hf)
  obtain⟨lo',m,rfl,hm',h7,h8,rfl⟩:=fW h
  have hm2:m=xs.length:=by omega
  subst hm2
  have hlen:((xs.take xs.length).drop lo').length=xs.length-lo' :=by simp
  refine⟨_,?_,rfl⟩
  rw [X]at Y
  have hr:(execOp a.eval ⟨dst,.slice t x (some lo) none none,ty,pos,after,g⟩).run E.P w= .ok (.value (.slice (if c=lo' then ad else ad.map (·.add (lo' *r.sz))) (xs.length-lo') (c-lo'))) w:=by
   simp [execOp,Instr.sliceAt,Y,h6,Instr.slice,jt D,Instr.sliceBounds,jS (k:=k) (n:=(lo' :Int)) (y:=xs.length) (by omega) (by omega),ti.sizeOf]
  rw [hr,hlen,h4]
  cases l with
  |none=>
   obtain⟨rfl,rfl⟩:=h5 rfl
   have:lo' =0:=by simpa using h7
   subst this;rfl
  |some b=>
   rw [h5' (by simp)]
   unfold nP
   simp only [uY,pM,jq,vj]
   split<;>rfl
def zS{i:Int}(h:dQ xs lo hi=some ys)(hy:gV ys i=some y):gV xs (lo+i)=some y/\0<=lo/\0<=i:=by
 obtain⟨l,m,rfl,rfl,Y,X,rfl⟩:=fW h
 obtain⟨h0,d⟩:=nq hy
 refine⟨?_,by omega,h0⟩
 obtain⟨j,rfl⟩: ∃j:Nat,i=j:=⟨i.toNat,by omega⟩
 rw [show((l:Int)+(j:Int))=((l+j:Nat):Int)from by omega,eU]
 rw [vX,uY]at d
 have hlt:l+j<m:=by
  have:=(sy.1 d).1
  simp at this;omega
 rwa [y9 hlt]at d
def zt{e:TypeId}{i:Int}(D:E.P.underlying t=some (.slice e))(ti:TI E.P e sz bytes agg z)(hsz:r.sz=sz)(hm:ml mm r U l cap xs∈O)(hs:dQ xs lo hi=some ys)(V:aJ E.N G x (Z (nP sz l cap lo.toNat ys.length)))(hi' :aJ E.N G ix (tD (rI k) i))(hy:gV ys i=some y):
  cu E O G ⟨dst,.indexAddr t x ix,ty,pos,after,g⟩ (Z (Ap l ((lo+i).toNat*sz+0))):=
 .of_pure fun a w S _ ho hf=>by
  subst hsz
  have Y:a.eval x=nP r.sz l cap lo.toNat ys.length:=V S a hf
  have d:a.eval ix= .int k i:=dI.1 (hi' S a hf)
  obtain⟨hxi,hl0,hi0⟩:=zS hs hy
  obtain⟨_,hx'⟩:=nq hxi
  obtain⟨b,cur,rfl,_,hle,_⟩:=xM (ho.mem _ hm).1 hx'
  have hlt:i.toNat<ys.length:=(sy.1 (nq hy).2).1
  have hlt2:(lo+i).toNat<xs.length:=(sy.1 hx').1
  have hne: ¬(cap=lo.toNat):=by omega
  refine⟨_,?_,rfl⟩
  have hc:0<=i/\i<(ys.length:Int):=⟨hi0,by omega⟩
  have e1:(lo+i).toNat=lo.toNat+i.toNat:=by omega
  simp [execOp,Y,d,nP,hne,Instr.indexAt,asIntOf,jt D,hc,ti.sizeOf,jq,Ap,M,e1,xo]
def Oy{e:TypeId}(D:E.P.underlying t=some (.slice e))(hm:ml mm r U l cap xs∈O)(hs:dQ xs lo hi=some ys)(V:aJ E.N G x (Z (nP sz l cap lo.toNat ys.length))):
  cu E O G ⟨dst,.call ⟨.builtin .len,#[x],#[t]⟩,ty,pos,after,g⟩ (tD (rI .i64) (ys.length:Int)):=
 .of_pure fun a w S _ ho hf=>by
  have Y:a.eval x=nP sz l cap lo.toNat ys.length:=V S a hf
  obtain⟨ad,c,d⟩: ∃ad c,nP sz l cap lo.toNat ys.length= .slice ad ys.length c:=by
   cases l with
   |none=>
    obtain⟨_,X,_⟩:=(ho.mem _ hm).1
    have hx0:xs=[]:=sd X.1
    subst hx0
    obtain⟨l',m,_,_,_,h8,rfl⟩:=fW hs
    exact⟨none,0,by simp [nP]⟩
   |some b=>exact⟨_,_,rfl⟩
  refine⟨.int .i64 ys.length,?_,dI.2 rfl⟩
  simp [execOp,resolve,invoke,builtin,Builtin.len_,jt D,Y,d,goInt]
end
def Pl(h:dQ xs 0 j=some ys)(k:As false r U l cap xs w S):As false r U l cap ys w S:=by
 obtain⟨lo,m,hl,rfl,h7,h8,rfl⟩:=fW h
 have hl0:lo=0:=by omega
 subst hl0
 obtain⟨cells,Y,X,d⟩:=k
 have hlen:((xs.take m).drop 0).length=m:=by simp;omega
 have h4:rh r S (cells.take (m*r.sz)) (xs.take m):=by
  have e:xs=xs.take m++xs.drop m:=(sL _ _).symm
  rw [e]at X
  have:=(qq X).1
  rwa [show(xs.take m).length=m from by simp;omega]at this
 refine⟨cells.take (m*r.sz),?_,by simpa using h4,fun b H=>d b H⟩
 rw [hlen]
 cases l with
 |none=>
  obtain⟨g1,g2⟩:=Y
  exact⟨by omega,by rw [g2];simp⟩
 |some b=>
  obtain⟨cur,g1,g2,g3,g4,g5⟩:=Y
  exact⟨cur,g1,by omega,g3,g4,by rw [<-g5,Ax,xq (AC _ h8)]⟩
def St.cut(h:dQ xs 0 j=some ys)(st:St E (dr r U l cap xs::O) G a w S):St E (dr r U l cap ys::O) G a w S:=
 st.own_map fun ho=>⟨⟨Pl h ho.1.1,ho.1.2⟩,ho.2.1,ho.2.2⟩
def FC(h:dQ xs 0 j=some ys)(k:RG E ops bx rest (dr r U l cap ys::O) G):RG E ops bx rest (dr r U l cap xs::O) G:=fun a w S st=>k a w S (st.cut h)
end

variable{x0 x1 x2 x3 x4 x5 x6:OE}
section
variable{e:Exit}
def uf{O:List OE}(h:eD base B w S (x0::x1::x2::x3::x4::x5::O)):eD base B w S (x5::x0::x1::x2::x3::x4::O):=
 (vQ h wT (fun f hf=>by simp only [jl]at hf ⊢;rcases hf with h|h|h|h|h|h<;>simp [h])).swap
def mW(h:RG E ops bx rest (x5::x0::x1::x2::x3::x4::O) G):RG E ops bx rest (x0::x1::x2::x3::x4::x5::O) G:=fun a w S st=>h a w S (st.own_map uf)
def eW(h:AT E bx e (x5::x0::x1::x2::x3::x4::O) G):AT E bx e (x0::x1::x2::x3::x4::x5::O) G:=fun a w S st=>h a w S (st.own_map uf)
def y5(h:LG E bx c (x5::x0::x1::x2::x3::x4::O) G):LG E bx c (x0::x1::x2::x3::x4::x5::O) G:=fun a w S st=>h a w S (st.own_map uf)
def ue{O:List OE}(h:eD base B w S (x0::x1::x2::x3::x4::x5::x6::O)):eD base B w S (x6::x0::x1::x2::x3::x4::x5::O):=
 (vQ h uf (fun f hf=>by simp only [jl]at hf ⊢;rcases hf with h|h|h|h|h|h|h<;>simp [h])).swap
def qB(h:RG E ops bx rest (x6::x0::x1::x2::x3::x4::x5::O) G):RG E ops bx rest (x0::x1::x2::x3::x4::x5::x6::O) G:=fun a w S st=>h a w S (st.own_map ue)
def ja(h:AT E bx e (x6::x0::x1::x2::x3::x4::x5::O) G):AT E bx e (x0::x1::x2::x3::x4::x5::x6::O) G:=fun a w S st=>h a w S (st.own_map ue)
def tt(h:LG E bx c (x6::x0::x1::x2::x3::x4::x5::O) G):LG E bx c (x0::x1::x2::x3::x4::x5::x6::O) G:=fun a w S st=>h a w S (st.own_map ue)
def FG{x7:OE}{O:List OE}(h:eD base B w S (x0::x1::x2::x3::x4::x5::x6::x7::O)):eD base B w S (x7::x0::x1::x2::x3::x4::x5::x6::O):=
 (vQ h ue (fun f hf=>by simp only [jl]at hf ⊢;rcases hf with h|h|h|h|h|h|h|h<;>simp [h])).swap
def y0{x7:OE}(h:RG E ops bx rest (x7::x0::x1::x2::x3::x4::x5::x6::O) G):RG E ops bx rest (x0::x1::x2::x3::x4::x5::x6::x7::O) G:=fun a w S st=>h a w S (st.own_map FG)
end

def sS(h:xs.set i y=zs):zs.length=xs.length:=by rw [<-h,BX]
section
def pA(hl:m=n)(ae:Nat)(hs:cw G ae=some (Z (av l cap n)))(k:RG E ops bx rest O ((ae,Z (av l cap m))::G)):RG E ops bx rest O G:=by
 subst hl
 exact fun a w S st=>k a w S (st.cons (st.facts.at_ ae _ hs))
end

def er{o1 o2:Nat}{g1:α->β}{g2:β->γ}(Y:lH r o1 q g1)(X:lH q o2 ae g2)(H:Nat.ble (o2+ae.sz) q.sz=true:=by rfl):lH r (o1+o2) ae (fun x=>g2 (g1 x)):=fun S cs x h=>by
 have d:=X S _ _ (Y S cs x h)
 have hb' :=sb H
 rwa [zf,Ax,sJ,xq (by omega)]at d
def pb{o1 o2:Nat}{g1:α->β}{u1:α->β->α}{u2:β->γ->β}(Y:lH r o1 q g1)(k1:fa r o1 q u1)(k2:fa q o2 ae u2)(H:Nat.ble (o2+ae.sz) q.sz=true:=by rfl)(hc:Nat.ble (o1+q.sz) r.sz=true:=by rfl):
  fa r (o1+o2) ae (fun x y=>u1 x (u2 (g1 x) y)):=fun S cs x ds y h hy=>by
 have hb' :=sb H
 have hc' :=sb hc
 have hl:=r.len h
 have d:=k1 S cs x _ _ h (k2 S _ _ ds y (Y S cs x h) hy)
 have e:cs.take (o1+o2)++ds++cs.drop (o1+o2+ae.sz)=cs.take o1++(((cs.drop o1).take q.sz).take o2++ds++((cs.drop o1).take q.sz).drop (o2+ae.sz))++cs.drop (o1+q.sz):=by
  rw [Ax,xq (by omega),zf,sJ,List.take_add,show o1+(o2+ae.sz)=o1+o2+ae.sz from by omega]
  simp only [hZ]
  congr 3
  have e2:cs.drop (o1+q.sz)=(cs.drop (o1+o2+ae.sz)).drop (q.sz-(o2+ae.sz)):=by rw [sJ];congr 1;omega
  rw [e2,sL]
 rw [e];exact d

def bk(P:Program)(f:FuncId)(ts:List Ty)(O1:List OE){ι:Type}(t:ι->Ty)(O2:ι->List OE):Prop:=
 ∀w S vs,mA w S->xn S ts vs->eD 0 um w S O1->Calls P f vs.toArray w fun en w' => ∃i v S',en= .returned v/\(t i).p S' v/\kw (fun k=> ∃f∈O1,f.fp k) w S w' S' /\mA w' S' /\eD 0 um w' S' (O2 i)/\ ∀k,(∃f∈O2 i,f.fp k)->(∃f∈O1,f.fp k)\/w.heap.size<=k
def Nv(E:En)(O1:List OE){ι:Type}(t:ι->Ty)(O2:ι->List OE):Ending->World->Prop:=fun en w' =>
 ∃i v S',en= .returned v/\(t i).p S' v/\kw E.B E.w0 E.S0 w' S' /\mA w' S' /\eD 0 um w' S' (O2 i)/\ ∀k,(∃f∈O2 i,f.fp k)->(∃f∈O1,f.fp k)\/E.w0.heap.size<=k
def Hm(O1:List OE):Nat->Prop:=fun k=> ∃f∈O1,f.fp k
def bk.of{t:ι->Ty}(hf:P.funcs[f]? =some fn)(H:fn.body=some c)(hN:fn.ntmps=N)(hn:Nat.ble ts.length N=true)(h: ∀w0 S0,CG ⟨P,⟨N,[]⟩,Hm O1,w0,S0,none⟩ (bodyPost P fn (Nv ⟨P,⟨N,[]⟩,Hm O1,w0,S0,none⟩ O1 t O2)) c O1 (zw 0 ts)):bk P f ts O1 t O2:=by
 subst hN
 intro w S vs hs hv ho
 exact wO.1 (callsIn_of_wp (F:=fw none) (n:=0) hf H trivial (h w S _ w S ⟨js _ _ _,hs,y3 ho fun f hf k hk=> .inr ⟨f,hf,hk⟩,Al hv _ (sb hn)⟩))
def BC{t:ι->Ty}{v:Value}(st:St E O G a w S)(hB:E.B=Hm O1)(i:ι)(hO:O=O2 i)(hv:(t i).p S v):Nv E O1 t O2 (.returned v) w:=by
 subst hO
 refine⟨i,v,S,rfl,hv,st.ext,st.sat,st.own.weak,fun k ⟨f,hf,hk⟩=>?_⟩
 rcases(eD.mem st.own f hf).2 k hk with h|h
 ·exact .inr h
 ·rw [hB]at h;exact .inl h
section
variable{t:ι->Ty}
def bF{k:Nat}{u:Ty}(hr:fn.results= #[.tmp k])(i:ι)(hO:O=O2 i)(hk:cw G k=some u)(hu: ∀S v,u.p S v->(t i).p S v):
  AT ⟨P,⟨N,[]⟩,Hm O1,w0,S0,none⟩ (bodyPost P fn (Nv ⟨P,⟨N,[]⟩,Hm O1,w0,S0,none⟩ O1 t O2)) .ret O G:=fun _ _ S st=>
 ⟨st.facts.defers,_,sC P fn k hr _ _,BC st rfl i hO (hu S _ (st.facts.at_ k u hk))⟩
def rb(hr:fn.results= #[])(i:ι)(hO:O=O2 i)(D:t i=tT []):
  AT ⟨P,⟨N,[]⟩,Hm O1,w0,S0,none⟩ (bodyPost P fn (Nv ⟨P,⟨N,[]⟩,Hm O1,w0,S0,none⟩ O1 t O2)) .ret O G:=fun _ _ S st=>
 ⟨st.facts.defers,_,vr P fn hr _ _,BC st rfl i hO (by rw [D];exact⟨[],rfl,trivial⟩)⟩
def eV(hr:fn.results= #[])(i:ι)(hO:O=O2 i)(D:t i=tT []):
  AT ⟨P,⟨N,[]⟩,Hm O1,w0,S0,none⟩ (bodyPost P fn (Nv ⟨P,⟨N,[]⟩,Hm O1,w0,S0,none⟩ O1 t O2)) .normal O G:=fun _ _ S st=>
 ⟨st.facts.defers,_,vr P fn hr _ _,BC st rfl i hO (by rw [D];exact⟨[],rfl,trivial⟩)⟩
end
def FF: ∀{O1 O2:List OE},eD base B w S O1->eD base B w S O2->(∀e∈O1,∀f∈O2,e.apart f)->eD base B w S (O1++O2)
 |[],_,_,h,_=>h
 |e::O1,O2,⟨Y,X,d⟩,h,ha=>⟨Y,fun f hf=>(ui.1 hf).elim (X f) (ha e (nM ..) f),FF d h fun g K f hf=>ha g (pK _ K) f hf⟩
variable{ats:Array TypeId}
section
variable{ty:TypeId}
def St.turn{Or O2:List OE}(st:St E (O1++Or) G a w S)(V:kw (fun k=> ∃f∈O1,f.fp k) w S w' S')(hs:mA w' S')(ho:eD 0 um w' S' O2)(hn: ∀k,(∃f∈O2,f.fp k)->(∃f∈O1,f.fp k)\/w.heap.size<=k):St E (O2++Or) G a w' S' :=by
 obtain⟨Y,X,d⟩:=qC st.own
 have hbl:=st.base_le
 refine⟨st.ext.step V (fun b ⟨f,hf,H⟩=>(eD.mem Y f hf).2 b H),hs,FF (y3 ho fun f hf k hk=>?_) (X.ext V fun f hf b H ⟨g,K,hgb⟩=>d g K f hf b hgb H) (fun e he f hf b heb hfb=>?_),st.facts.mono V.keep⟩
 ·rcases hn k ⟨f,hf,hk⟩with⟨g,K,hgk⟩|h
  ·exact(eD.mem Y g K).2 k hgk
  ·exact .inl (ze hbl h)
 ·rcases hn b ⟨e,he,heb⟩with⟨g,K,hgb⟩|h
  ·exact d g K f hf b hgb hfb
  ·have:=f.here (eD.mem X f hf).1 b hfb
   omega
def FE{xs:List Operand}(O1 Or:List OE){t:ι->Ty}(hO:O=O1++Or)(hc:ak E.P f=true)(hs:bk E.P f ts O1 t O2)(V:kQ E.N G xs ts)(hd:Nat.blt h3 E.N.n=true)(k: ∀i,RG E ops bx rest (O2 i++Or) ((h3,t i)::G)):
  RG E ops bx (⟨some h3,.call ⟨.value (.func f),xs.toArray,ats⟩,ty,pos,after,none⟩::rest) O G:= .of rfl fun a w S st=>by
 subst hO
 have hr:(execOp a.eval ⟨some h3,.call ⟨.value (.func f),xs.toArray,ats⟩,ty,pos,after,none⟩).run E.P w= .ok (.enter f (xs.map a.eval).toArray) w:=by
  simp [execOp,resolve,Act.eval,Deferred.ofValue,invoke,iK hc]
 refine⟨fun c h=>(by cases h),?_⟩
 rw [hr]
 refine(hs w S _ st.sat (V.tys st.facts) (qC st.own).1.weak).mono fun en w' ⟨i,v,S',he,hv,Y,X,d,h4⟩=>⟨_,he,?_⟩;exact k i _ _ S' ((st.turn Y X d h4).put hd hv)
end

structure OI where
 h:Nat->Option Nat×Nat:=fun _=>(none,0)
 os:List (Option Nat×Nat):=[]
 fp:Nat->Prop:=um
 v:Value:=undef
 ng:Nat->(Option Nat×Nat)×(Nat->Option Nat×Nat):=fun _=>((none,0),fun _=>(none,0))
def jQ:OI:={}
def oi(l:Option Nat)(c:Nat):OI:={h:=fun _=>(l,c)}
def EffOK(E:En)(O:List OE)(need:mg)(o:Oper)(post:OI->List OE)(t:OI->Ty):Prop:=
 ∀a w S,mA w S->eD E.base E.B w S O->bS E.N S a need->E.base<=w.heap.size->
  KC E.P o a w (fun a' w' => ∃v S' x,a' =a.put o.dst v/\kw (Hm O) w S w' S' /\mA w' S' /\eD E.base E.B w' S' (post x)/\(t x).p S' v)
variable{post:OI->List OE}{t' :TypeId}
section
variable{ty:TypeId}
def Fq{y:Operand}{u:OI->Ty}(ti:TI E.P T sz bytes agg z)(hsz:r.sz=sz)(hz:Nat.beq z.length sz=true)(h0:Nat.blt 0 sz=true)(h128:Nat.ble bytes 2048=true)(D:E.P.underlying t=some (.slice T))(V:aJ E.N G x (Z (av l cap n)))(hy: ∀a w S,mA w S->bS E.N S a G-> ∃news,Src E.P r.sz t' (a.eval y) ys.length news w/\rh r S news ys)(happ:app xs ys=some zs)(hu: ∀l' cap' w0 S,(ml mm r T l' cap' zs).p w0 S->(u (oi l' cap')).p S (av l' cap' zs.length))(hn:n=xs.length):
  EffOK E (ml mm r T l cap xs::O) G ⟨some h3,.call ⟨.builtin .append,#[x,y],#[t,t']⟩,ty,pos,after,g⟩ (fun i=>ml mm r T (i.h 0).1 (i.h 0).2 zs::O) u:=fun a w S hs ho hf H=>by
 subst hn
 have Y:a.eval x=av l cap xs.length:=V S a hf
 obtain⟨news,X,d⟩:=hy a w S hs hf
 obtain⟨l',cap',w',S',hr,hext,hsat,hh,hnew⟩:=xF (ty:=ty) ti hsz hz h0 h128 D hs ho.1 H X d happ
 have hrun:(execOp a.eval ⟨some h3,.call ⟨.builtin .append,#[x,y],#[t,t']⟩,ty,pos,after,g⟩).run E.P w= .ok (.value (av l' cap' zs.length)) w' :=by
  simp [execOp,resolve,invoke,builtin,Y,hr]
 refine⟨fun c h=>(by cases h),?_⟩
 rw [hrun]
 refine⟨_,S',oi l' cap',rfl,hext.more fun b H=>⟨_,nM ..,H⟩,hsat,⟨hh,fun f hf b H hfb=>?_,ho.2.2.ext hext fun f hf b H hbl=>ho.2.1 f hf b hbl H⟩,hu l' cap' w' S' hh.1⟩
 rcases hnew b H with h|h
 ·exact ho.2.1 f hf b h hfb
 ·have:=f.here (eD.mem ho.2.2 f hf).1 b hfb
  omega
def uQ{y:Operand}(ti:TI E.P T sz bytes agg z)(hsz:r.sz=sz)(hz:Nat.beq z.length sz=true)(h0:Nat.blt 0 sz=true)(h128:Nat.ble bytes 2048=true)(D:E.P.underlying t=some (.slice T))(ht' :t' =t)(V:aJ E.N G x (Z (av l cap n)))(hy:aJ E.N G y (tD (ga r) ys))(happ:app xs ys=some zs)(hn:n=xs.length:=by rfl):
  EffOK E (dr r T l cap xs::O) G ⟨some h3,.call ⟨.builtin .append,#[x,y],#[t,t']⟩,ty,pos,after,g⟩ (fun i=>dr r T (i.h 0).1 (i.h 0).2 zs::O) (fun i=>Z (av (i.h 0).1 (i.h 0).2 zs.length)):=by
 subst ht'
 exact Fq ti hsz hz h0 h128 D V (fun a w S hs hf=>ux D hs (hy S a hf)) happ (fun _ _ _ _ _=>rfl) hn
def Lu{y:Operand}(ti:TI E.P T sz bytes agg z)(hsz:r.sz=sz)(hz:Nat.beq z.length sz=true)(h0:Nat.blt 0 sz=true)(h128:Nat.ble bytes 2048=true)(D:E.P.underlying t=some (.slice T))(ht' :t' =t)(V:aJ E.N G x (tO r l cap xs))(hy:aJ E.N G y (tD (ga r) ys))(happ:app xs ys=some zs):
  EffOK E (tip r T l cap xs::O) G ⟨some h3,.call ⟨.builtin .append,#[x,y],#[t,t']⟩,ty,pos,after,g⟩ (fun i=>tip r T (i.h 0).1 (i.h 0).2 zs::O) (fun i=>tO r (i.h 0).1 (i.h 0).2 zs):=by
 subst ht'
 exact Fq ti hsz hz h0 h128 D (Dm V) (fun a w S hs hf=>ux D hs (hy S a hf)) happ (fun _ _ _ _ h=>⟨rfl,nk h⟩) rfl
def QT{xs:List Operand}{u:OI->Ty}(hc:ak E.P f=true)(hs:jD E.P f ts mm r T ys)(V:kQ E.N G xs ts)(hu: ∀l cap w0 S,(ml mm r T l cap ys).p w0 S->(u (oi l cap)).p S (av l cap ys.length)):
  EffOK E O G ⟨some h3,.call ⟨.value (.func f),xs.toArray,ats⟩,ty,pos,after,g⟩ (fun i=>ml mm r T (i.h 0).1 (i.h 0).2 ys::O) u:=fun a w S hsat ho hf H=>by
 have hr:(execOp a.eval ⟨some h3,.call ⟨.value (.func f),xs.toArray,ats⟩,ty,pos,after,g⟩).run E.P w= .ok (.enter f (xs.map a.eval).toArray) w:=by
  simp [execOp,resolve,Act.eval,Deferred.ofValue,invoke,iK hc]
 refine⟨fun c h=>(by cases h),?_⟩
 rw [hr]
 exact(hs w S _ hsat (V.tys hf)).mono fun e w' ⟨l,cap,S',he,Y,X,d⟩=>⟨_,he,_,S',oi l cap,rfl,Y.more fun _ H=>H.elim,X,rY ho Y d.1 (fun b H=>(d.2 b H).resolve_right id) H,hu l cap w' S' d.1⟩
def jD.tip(h:jD P f ts mm r T ys):jD P f ts true r T ys:=by
 cases mm with
 |true=>exact h
 |false=>
  intro w S vs hs hv
  refine(h w S vs hs hv).mono fun e w' ⟨l,cap,S',he,Y,X,d⟩=>?_
  have st:St ⟨default,⟨0,[]⟩,um,w,S,none⟩ [dr r T l cap ys] [] ⟨#[],[]⟩ w' S' :=⟨Y,X,⟨d,fun _ hf=>(by cases hf),trivial⟩,⟨rfl,rfl,fun _ _ h=>(by simp [cw]at h)⟩⟩
  obtain⟨S'',h4⟩:=st.freeze
  exact⟨l,cap,S'',he,h4.ext,h4.sat,h4.own.1⟩
def vJ{xs:List Operand}(hc:ak E.P f=true)(hs:jD E.P f ts mm r T ys)(V:kQ E.N G xs ts):
  EffOK E O G ⟨some h3,.call ⟨.value (.func f),xs.toArray,ats⟩,ty,pos,after,g⟩ (fun i=>Go.Proofs.YtdohlidddcgfjaaGreat.tip r T (i.h 0).1 (i.h 0).2 ys::O) (fun i=>tO r (i.h 0).1 (i.h 0).2 ys):=QT hc hs.tip V (fun _ _ _ _ h=>⟨rfl,nk h⟩)
def eD.turn{Or O2:List OE}(h:eD base B w S (O1++Or))(hbl:base<=w.heap.size)(V:kw (Hm O1) w S w' S')(ho:eD 0 um w' S' O2)(hn: ∀k,(∃f∈O2,f.fp k)->(∃f∈O1,f.fp k)\/w.heap.size<=k):eD base B w' S' (O2++Or):=by
 obtain⟨Y,X,d⟩:=qC h
 refine FF (y3 ho fun f hf k hk=>?_) (X.ext V fun f hf b H ⟨g,K,hgb⟩=>d g K f hf b hgb H) (fun e he f hf b heb hfb=>?_)
 ·rcases hn k ⟨f,hf,hk⟩with⟨g,K,hgk⟩|h
  ·exact(eD.mem Y g K).2 k hgk
  ·exact .inl (ze hbl h)
 ·rcases hn b ⟨e,he,heb⟩with⟨g,K,hgb⟩|h
  ·exact d g K f hf b hgb hfb
  ·have:=f.here (eD.mem X f hf).1 b hfb
   omega
def an{xs:List Operand}(O1 Or:List OE){t:OI->Ty}{O2:OI->List OE}(hO:O=O1++Or)(hc:ak E.P f=true)(hs:bk E.P f ts O1 t O2)(V:kQ E.N G xs ts)(hpost: ∀i,O2 i++Or=post i):
  EffOK E O G ⟨some h3,.call ⟨.value (.func f),xs.toArray,ats⟩,ty,pos,after,g⟩ post t:=fun a w S hsat ho hf H=>by
 subst hO
 obtain rfl:(fun i=>O2 i++Or)=post:=funext hpost
 have hr:(execOp a.eval ⟨some h3,.call ⟨.value (.func f),xs.toArray,ats⟩,ty,pos,after,g⟩).run E.P w= .ok (.enter f (xs.map a.eval).toArray) w:=by
  simp [execOp,resolve,Act.eval,Deferred.ofValue,invoke,iK hc]
 refine⟨fun c h=>(by cases h),?_⟩
 rw [hr]
 exact(hs w S _ hsat (V.tys hf) (qC ho).1.weak).mono fun en w' ⟨i,v,S',he,hv,Y,X,d,h4⟩=>⟨_,he,v,S',i,rfl,Y.more fun b ⟨f,hf,H⟩=>⟨f,D8 _ hf,H⟩,X,eD.turn ho H Y d h4,hv⟩
def aL{op:Op}{t:OI->Ty}(h:EffOK E O G ⟨some h3,op,ty,pos,after,none⟩ post t)(hd:Nat.blt h3 E.N.n=true)(k: ∀x:OI,RG E ops bx rest (post x) ((h3,t x)::G)):RG E ops bx (⟨some h3,op,ty,pos,after,none⟩::rest) O G:= .of rfl fun a w S st=>
 ph (fun a' w' ⟨v,S',x,ha,V,hs,ho,hv⟩=>by
  subst ha
  exact k x _ _ S' ⟨st.ext.step V fun b ⟨f,hf,H⟩=>(eD.mem st.own f hf).2 b H,hs,ho,(st.facts.mono V.keep).put hd hv⟩) (h a w S st.sat st.own st.facts st.base_le)
end

def Mc(σ:Nat->OI)(k:Nat)(x:OI):Nat->OI:=fun j=>bif Nat.beq j k then x else σ j
def Ia(σ:Nat->OI){k j:Nat}(x:OI)(h:j≠k):Mc σ k x j=σ j:=by
 have:Nat.beq j k=false:=by
  cases H:Nat.beq j k with
  |false=>rfl
  |true=>exact absurd (pG H) h
 simp [Mc,this]
structure NE where
 slot:Nat
 ty:(Nat->OI)->Ty
 src:Option Nat
def acQ(G:mg)(ts:List (OI->Ty))(n:NE):Prop:=
 match n.src with
 |some j=> ∀σ,(ts[j]?).map (fun f=>f (σ j))=some (n.ty σ)
 |none=> ∀σ,cw G n.slot=some (n.ty σ)
def Pv(G:mg)(ts:List (OI->Ty)):List NE->Prop
 |[]=>True
 |n::l=>acQ G ts n/\Pv G ts l
def Pv.mem{ts:List (OI->Ty)}: ∀{l:List NE},Pv G ts l-> ∀n∈l,acQ G ts n
 |_::_,⟨h,_⟩,_,.head _=>h
 |_::_,⟨_,h⟩,_,.tail _ hm=>Pv.mem h _ hm
def k7(E:En)(ops:Array Oper)(O:List OE)(need:mg)(o:Oper)(post:OI->List OE)(t:OI->Ty):Prop:=
 ∀a w S,mA w S->eD E.base E.B w S O->bS E.N S a need->E.base<=w.heap.size->
  if Region.wanted o (yielded ops a.tmps)then KC E.P o a w (fun a' w' => ∃v S' x,a' =a.put o.dst v/\kw (Hm O) w S w' S' /\mA w' S' /\eD E.base E.B w' S' (post x)/\(t x).p S' v)
  else∃x,eD E.base E.B w S (post x)/\(t x).p S undef
def bY{need:mg}{t:OI->Ty}(K:o.guard=none)(h:EffOK E O need o post t):k7 E ops O need o post t:=fun a w S hs ho hf H=>by
 have:Region.wanted o (yielded ops a.tmps)=true:=by unfold Region.wanted;rw [K]
 rw [this,bh rfl]
 exact h a w S hs ho hf H
def hY(es:List Bool)(i:Nat):Nat:=(es.take i).countP (· ==true)
def NA(L:List Oper)(es:List Bool):Bool:=(List.range es.length).all fun i=>(List.range i).all fun j=> !((es[i]?).getD false&&(es[j]?).getD false)||nW L L.length i j
structure DJE(E:En)(G:mg)(l:List Oper)(ts:List (OI->Ty))(Om:Nat->(Nat->OI)->List OE)(es:List Bool)(done:Array Bool)(a:Act)(w:World)(S:SH)(σ:Nat->OI)(c:Nat):Prop where
 ext:kw E.B E.w0 E.S0 w S
 sat:mA w S
 own:eD E.base E.B w S (Om c σ)
 size:a.tmps.size=E.N.n
 defers:a.defers=E.N.ds
 dsz:done.size=l.length
 down: ∀j o,l[j]? =some o->done.getD j false=true-> ∀e∈o.after,Region.binds .any e=true->done.getD e.on false=true
 old: ∀k t,cw G k=some t->(∀j o,l[j]? =some o->done.getD j false=true->o.dst≠some k)->t.p S (a.tmps.getD k undef)
 new: ∀j o h3 f,l[j]? =some o->done.getD j false=true->o.dst=some h3->ts[j]? =some f->(f (σ j)).p S (a.tmps.getD h3 undef)
 chain: ∀k,es[k]? =some true->(done.getD k false=true↔hY es k<c)
variable{es:List Bool}
def FA: ∀{i j:Nat},i<j->es[i]? =some true->hY es i<hY es j:=by
 induction es with
 |nil=>intro i j _ h;simp at h
 |cons e es ih=>
  intro i j hij h
  cases j with
  |zero=>omega
  |succ j=>
   cases i with
   |zero=>simp at h;subst h;simp [hY]
   |succ i=>
    have:=ih (i:=i) (j:=j) (by omega) (by simpa using h)
    cases e<;>simp [hY]at this ⊢ <;>omega
def wP: ∀{c k:Nat},c<hY es k-> ∃i,i<k/\es[i]? =some true/\hY es i=c:=by
 induction es with
 |nil=>intro c k h;simp [hY]at h
 |cons e es ih=>
  intro c k h
  cases k with
  |zero=>simp [hY]at h
  |succ k=>
   cases e with
   |false=>
    obtain⟨i,Y,X,d⟩:=ih (c:=c) (k:=k) (by simpa [hY] using h)
    exact⟨i+1,by omega,by simpa using X,by simpa [hY] using d⟩
   |true=>
    cases c with
    |zero=>exact⟨0,by omega,rfl,by simp [hY]⟩
    |succ c=>
     obtain⟨i,Y,X,d⟩:=ih (c:=c) (k:=k) (by simp [hY]at h ⊢;omega)
     exact⟨i+1,by omega,by simpa using X,by simp [hY]at d ⊢;omega⟩
section
variable{ts:List (OI->Ty)}{Om:Nat->(Nat->OI)->List OE}
end

def Z0(n:Int):Option Unit:=if 0<=n then some ()else none
def E6{n:Int}(h:Z0 n=some u):0<=n:=by
 unfold Z0 at h
 split at h
 ·assumption
 ·cases h
section
variable{ty:TypeId}
def Hc(D:E.P.underlying t=some (.slice e))(V:aJ E.N G x (Z (.slice none 0 0))):cu E O G ⟨dst,.call ⟨.builtin .len,#[x],#[t]⟩,ty,pos,after,g⟩ (tD (rI .i64) (0:Int)):=
 .of_pure fun a w S _ _ hf=>by
  have Y:a.eval x= .slice none 0 0:=V S a hf
  refine⟨.int .i64 0,?_,dI.2 rfl⟩
  simp [execOp,resolve,invoke,builtin,Builtin.len_,jt D,Y,goInt]
def Hd(D:E.P.underlying t=some (.slice e))(V:aJ E.N G x (Z (.slice none 0 0))):cu E O G ⟨dst,.call ⟨.builtin .cap,#[x],#[t]⟩,ty,pos,after,g⟩ (tD (rI .i64) (0:Int)):=
 .of_pure fun a w S _ _ hf=>by
  have Y:a.eval x= .slice none 0 0:=V S a hf
  refine⟨.int .i64 0,?_,dI.2 rfl⟩
  simp [execOp,resolve,invoke,builtin,Builtin.cap_,jt D,Y,goInt]
def KD{hi:Operand}(D:E.P.underlying t=some (.slice T))(ti:TI E.P T sz bytes agg z)(V:aJ E.N G x (Z (.slice none 0 0)))(hhi:aJ E.N G hi (tD (rI k) (0:Int))):
  cu E O G ⟨dst,.slice t x none (some hi) none,ty,pos,after,g⟩ (Z (.slice none 0 0)):=
 .of_pure fun a w S _ _ hf=>by
  have Y:a.eval x= .slice none 0 0:=V S a hf
  have h6:=dI.1 (hhi S a hf)
  refine⟨.slice none 0 0,?_,rfl⟩
  have H:=jS (P:=E.P) (w:=w) (k:=k) (n:=(0:Int)) (y:=0) (code:= .sliceAcap) (by omega) (by omega)
  simp [execOp,Instr.sliceAt,Y,h6,Instr.slice,jt D,Instr.sliceBounds,H,jS (k:=k) (n:=(0:Int)) (y:=0) (by omega) (by omega),ti.sizeOf]
end

def vY{α:Type}(n:Int)(z:α):Option (List α):=if 0<=n/\n<=68719476736 then some (List.replicate n.toNat z)else none
def CO{n:Int}{z:α}(h:vY n z=some zs): ∃m:Nat,n=m/\m<=68719476736/\zs=List.replicate m z:=by
 unfold vY at h
 split at h
 ·rename_i hc;exact⟨n.toNat,by omega,by omega,by simpa using h.symm⟩
 ·cases h
def vw{α:Type}{r:Rp α}{x:α}{z:List Value}(V: ∀S,r.rc S z x)(S:SH): ∀n:Nat,rh r S (List.replicate n z).flatten (List.replicate n x)
 |0=>rfl
 |n+1=>⟨z,_,by rw [List.replicate_succ,List.flatten_cons],V S,vw V S n⟩
def EP(z:List Value):(List.range z.length).map (fun i=>z[i%z.length]?.getD default)=z:=by
 apply List.ext_getElem?
 intro k
 rcases oc k z.length with h|h
 ·rw [JB,List.getElem?_range h]
  simp [Nat.mod_eq_of_lt h,h]
 ·rw [D9 (by simpa using h),D9 h]
def o0(z:List Value)(n:Nat):(Builtin.zeroCells z.toArray n).toList=(List.replicate n z).flatten:=by
 unfold Builtin.zeroCells
 simp
 induction n with
 |zero=>simp
 |succ n ih=>
  rw [List.replicate_succ,List.flatten_cons,<-ih,Nat.succ_mul,Nat.add_comm,List.range_add,List.map_append,EP,List.map_map]
  congr 1
  apply Gy
  intro i _
  simp
def vE(z:List Value)(n sz:Nat)(h:z.length=sz):(madeCells z.toArray (n*sz)).toList=(List.replicate n z).flatten:=by
 subst h
 have:=o0 z n
 unfold Builtin.zeroCells at this
 unfold madeCells
 simpa using this
section
variable{ty:TypeId}
def flat_len(h:z.length=sz)(n:Nat):(List.replicate n z).flatten.length=n*sz:=by
 simp [h]
def TT{x:α}{n:Int}{y y' :Operand}(ti:TI E.P T sz bytes agg z)(hsz:r.sz=sz)(hz:Nat.beq z.length sz=true)(h128:Nat.ble bytes 2048=true)(D:E.P.underlying t=some (.slice T))(V: ∀S,r.rc S z x)(hy:aJ E.N G y (tD (rI k) n))(hy' :aJ E.N G y' (tD (rI k') n))(h:vY n x=some zs):
  EffOK E O G ⟨some h3,.makeSlice t y y',ty,pos,after,g⟩ (fun i=>dr r T (i.h 0).1 (i.h 0).2 zs::O) (fun i=>Z (av (i.h 0).1 (i.h 0).2 zs.length)):=fun a w S hs ho hf H=>by
 subst hsz
 obtain⟨i,zv,hi,Y,X,d,h4⟩:=ti.get
 obtain⟨m,rfl,hm,rfl⟩:=CO h
 have hyv:=dI.1 (hy S a hf)
 have hyv' :=dI.1 (hy' S a hf)
 have hz2:z.length=r.sz:=pG hz
 have h128' :=sb h128
 have hbytes:(i.bytes:Int)*(m:Int)<=281474976710656:=by
  have:i.bytes*m<=2048*68719476736:=Nat.mul_le_mul (by omega) hm
  have h5:((i.bytes*m:Nat):Int)<=281474976710656:=by omega
  rwa [Int.natCast_mul]at h5
 have hr:=run_make (P:=E.P) w t T i zv D hi d k k' (m:Int) (m:Int) (by omega) (Int.le_refl _) hbytes (by omega)
 rw [uY,Y,h4]at hr
 obtain⟨he,hs',hno⟩:=jP (w:=w) (.cells (madeCells z.toArray (m*r.sz)) T (0,0)) hs
 have hrun:(execOp a.eval ⟨some h3,.makeSlice t y y',ty,pos,after,g⟩).run E.P w= .ok (.value (.slice (some ⟨w.heap.size,0,none⟩) m m)) (w.alloc (.cells (madeCells z.toArray (m*r.sz)) T (0,0))):=by
  simp [execOp,hyv,hyv',hr]
 refine⟨fun c h=>(by cases h),?_⟩
 rw [hrun]
 have hfl:=flat_len hz2 m
 refine⟨_,S,oi (some w.heap.size) m,rfl,he.more fun _ H=>H.elim,hs',rY ho he (e:=dr r T (some w.heap.size) m (List.replicate m x)) ⟨(List.replicate m z).flatten,⟨_,xx w _,by simp,by simp only [maxLen];omega,by rw [size_madeCells],?_⟩,vw V S m,fun b H=>by rw [<-qE H];exact hno⟩ (fun b H=>AF (qE H)) H,?_⟩
 ·rw [vE z m r.sz hz2,Ea]
  exact ul (by omega)
 ·show _=av _ _ _
  rw [Ea];rfl
def Lt{x:α}{n:Int}{ae y:Operand}{kn:IntKind}(ti:TI E.P T sz bytes agg z)(hsz:r.sz=sz)(hz:Nat.beq z.length sz=true)(h0:Nat.blt 0 sz=true)(h128:Nat.ble bytes 2048=true)(D:E.P.underlying t=some (.slice T))(ht' :E.P.underlying t' =some (.int kn))(V: ∀S,r.rc S z x)(hs' :aJ E.N G ae (Z (.slice none 0 0)))(hy:aJ E.N G y (tD (rI k) n))(hn:0<n)(h:vY n x=some zs):
  EffOK E O G ⟨some h3,.call ⟨.builtin .append,#[ae,y],#[t,t']⟩,ty,pos,after,g⟩ (fun i=>dr r T (i.h 0).1 (i.h 0).2 zs::O) (fun i=>Z (av (i.h 0).1 (i.h 0).2 zs.length)):=fun a w S hs ho hf H=>by
 subst hsz
 obtain⟨i,zv,hi,Y,X,d,h4⟩:=ti.get
 obtain⟨m,rfl,hm,rfl⟩:=CO h
 have hsv:a.eval ae= .slice none 0 0:=hs' S a hf
 have hyv:=dI.1 (hy S a hf)
 have hz2:z.length=r.sz:=pG hz
 have h128' :=sb h128
 have h0' :0<r.sz:=by simpa [uW] using h0
 have hbytes:m*i.bytes<=281474976710656:=by
  have:m*i.bytes<=68719476736*2048:=Nat.mul_le_mul hm (by omega)
  omega
 have hr:=Lib.run_append_nil_zeros (P:=E.P) w t t' ty T i zv k kn D ht' hi d m (by omega) (by omega) (by omega) hbytes
 have hge:=grownCap_ge w m 0 T
 have hle:=grownCap_le_maxLen w m 0 T (by simp only [maxLen];omega)
 generalize grownCap w m 0 T=cp at hr hge hle
 obtain⟨C,hC⟩: ∃C,Builtin.zeroCells zv.cells m++Builtin.zeroCells zv.cells (cp-m)=C:=⟨_,rfl⟩
 rw [hC]at hr
 obtain⟨he0,hs0⟩:=yC (w:=w) hs
 obtain⟨he,hs2,hno⟩:=jP (w:=w.drew) (.cells C T (0,0)) hs0
 have hx2:kw um w S (w.drew.alloc (.cells C T (0,0))) S:=he0.trans he
 have hrun:(execOp a.eval ⟨some h3,.call ⟨.builtin .append,#[ae,y],#[t,t']⟩,ty,pos,after,g⟩).run E.P w= .ok (.value (.slice (some ⟨w.heap.size,0,none⟩) m cp)) (w.drew.alloc (.cells C T (0,0))):=by
  simp [execOp,resolve,invoke,builtin,hsv,hyv,hr]
 refine⟨fun c h=>(by cases h),?_⟩
 rw [hrun]
 have hfl:=flat_len hz2 m
 have hC1:C.toList=(List.replicate m z).flatten++(List.replicate (cp-m) z).flatten:=by
  rw [<-hC,Array.toList_append,h4,o0,o0]
 refine⟨_,S,oi (some w.heap.size) cp,rfl,hx2.more fun _ H=>H.elim,hs2,rY ho hx2 (e:=dr r T (some w.heap.size) cp (List.replicate m x)) ⟨(List.replicate m z).flatten,⟨C,xx w.drew _,by simpa using hge,hle,?_,?_⟩,vw V S m,fun b H=>by rw [<-qE H];exact hno⟩ (fun b H=>AF (qE H)) H,?_⟩
 ·have:C.toList.length=cp*r.sz:=by
   rw [hC1,kj,hfl,flat_len hz2,<-xo];congr 1;omega
  simpa using this
 ·rw [hC1,Ea,<-hfl,List.take_left]
 ·show _=av _ _ _
  rw [Ea];rfl

def Q7{x:α}{y:Operand}(ti:TI E.P T sz bytes agg z)(hsz:r.sz=sz)(hz:Nat.beq z.length sz=true)(D:E.P.underlying t=some (.slice T))(V: ∀S,r.rc S z x)(hone:z.all (·.oneCell')=true)(hs:dQ xs lo (xs.length:Int)=some ys)(hy:aJ E.N G y (Z (nP sz l cap lo.toNat ys.length)))(hzs:xs.take lo.toNat++List.replicate ys.length x=zs)(k:RG E ops bx rest (dr r T l cap zs::O) G):
  RG E ops bx (⟨none,.call ⟨.builtin .clear,#[y],#[t]⟩,ty,pos,after,none⟩::rest) (dr r T l cap xs::O) G:= .of rfl fun a w S st=>by
 subst hsz
 subst hzs
 obtain⟨i,zv,hi,Y,X,d,h4⟩:=ti.get
 have hyv:a.eval y=nP r.sz l cap lo.toNat ys.length:=hy S a st.facts
 have hz2:z.length=r.sz:=pG hz
 obtain⟨lo',m,rfl,hm,h5,h6,rfl⟩:=fW hs
 have hm' :m=xs.length:=by omega
 subst hm'
 rw [D0]at hyv k
 rw [uY]at hyv k
 by_cases hnil:xs.drop lo' =[]
 ·have hlo:xs.length<=lo' :=Jz.1 hnil
  rw [hnil]at hyv k
  have e1:xs.take lo' ++List.replicate ([]:List α).length x=xs:=by simp [ul hlo]
  rw [e1]at k
  have hrun:(execOp a.eval ⟨none,.call ⟨.builtin .clear,#[y],#[t]⟩,ty,pos,after,none⟩).run E.P w= .ok (.value (.tuple #[])) w:=by
   cases l<;>simp [execOp,resolve,invoke,builtin,Builtin.clear_,jt D,hyv,nP]
  refine⟨fun c h=>(by cases h),?_⟩
  rw [hrun]
  exact k _ _ S st
 ·obtain⟨⟨cells,hraw,hrc,hno⟩,hbase⟩:=st.own.1
  have hlt:lo' <xs.length:=by
   rcases oc lo' xs.length with h|h
   ·exact h
   ·exact absurd (FU h) hnil
  cases l with
  |none=>have:=hraw.1;omega
  |some b=>
   obtain⟨cur,g1,g2,g3,g4,g5⟩:=hraw
   have hno' :S b=none:=hno b rfl
   have hne: ¬(cap=lo'):=by omega
   have hld:(xs.drop lo').length=xs.length-lo' :=by simp
   have hfl:=flat_len hz2 (xs.length-lo')
   have hones: ∀u∈(List.replicate (xs.length-lo') z).flatten,u.oneCell' =true:=by
    intro u hu
    obtain⟨q,hq,hu⟩:=List.mem_flatten.1 hu
    rw [(List.mem_replicate.1 hq).2]at hu
    exact kU.1 hone u hu
   have hmul:xs.length*r.sz<=cur.size:=by rw [g4];exact AC _ g2
   have hfit:lo' *r.sz+(xs.length-lo')*r.sz=xs.length*r.sz:=by rw [<-xo];congr 1;omega
   have hst:=run_storeCells_at E.P b (lo' *r.sz) T (List.replicate (xs.length-lo') z).flatten 0 cur w g1 (by omega) hones
   simp only [CF]at hst
   have hrun:(execOp a.eval ⟨none,.call ⟨.builtin .clear,#[y],#[t]⟩,ty,pos,after,none⟩).run E.P w= .ok (.value (.tuple #[])) (w.setRow b (cur.toList.take (lo' *r.sz)++(List.replicate (xs.length-lo') z).flatten++cur.toList.drop (lo' *r.sz+(List.replicate (xs.length-lo') z).flatten.length)).toArray):=by
    have e1: ∃q,xs.length-lo' =q+1:=⟨xs.length-lo' -1,by omega⟩
    obtain⟨q,hq⟩:=e1
    have e2:a.eval y= .slice (some ⟨b,lo' *r.sz,none⟩) (q+1) (cap-lo'):=by rw [hyv,hld,hq];simp [nP,hne]
    rw [hq]at hst ⊢
    simp [execOp,resolve,invoke,builtin,Builtin.clear_,jt D,e2,zeroValue,typeInfo,hi,d,h4,o0,hst]
   refine⟨fun c h=>(by cases h),?_⟩
   rw [hrun]
   have hset:=setRow_heap w b cur (cur.toList.take (lo' *r.sz)++(List.replicate (xs.length-lo') z).flatten++cur.toList.drop (lo' *r.sz+(List.replicate (xs.length-lo') z).flatten.length)).toArray T _ g1
   have hl2:(xs.take lo' ++List.replicate (xs.drop lo').length x).length=xs.length:=by simp;omega
   have hsp:rh r S (cells.take (lo' *r.sz)) (xs.take lo'):=by
    have e:xs=xs.take lo' ++xs.drop lo' :=(sL _ _).symm
    rw [e]at hrc
    have:=(qq hrc).1
    rwa [show(xs.take lo').length=lo' from by simp;omega]at this
   have hcl:((cur.toList.take (lo' *r.sz)++(List.replicate (xs.length-lo') z).flatten++cur.toList.drop (lo' *r.sz+(List.replicate (xs.length-lo') z).flatten.length)).toArray).toList.take ((xs.take lo' ++List.replicate (xs.drop lo').length x).length*r.sz)=cells.take (lo' *r.sz)++(List.replicate (xs.length-lo') z).flatten:=by
    rw [hl2,<-g5,Ax,xq (AC _ (by omega))]
    have hlen1:(cur.toList.take (lo' *r.sz)++(List.replicate (xs.length-lo') z).flatten).length=xs.length*r.sz:=by
     rw [kj,hfl,DZ,CM,xq (by omega)];exact hfit
    rw [<-hlen1,List.take_left]
   obtain⟨q1,q2,q3⟩:=ny (O:=O) st.sat (dr r T (some b) cap xs) (dr r T (some b) cap (xs.take lo' ++List.replicate (xs.drop lo').length x)) st.own (fun k=>⟨fun h=>(qE h).symm,fun h=>by rw [h];rfl⟩) (fun k=>⟨fun h=>(qE h).symm,fun h=>by rw [h];rfl⟩)
    (w' :=w.setRow b (cur.toList.take (lo' *r.sz)++(List.replicate (xs.length-lo') z).flatten++cur.toList.drop (lo' *r.sz+(List.replicate (xs.length-lo') z).flatten.length)).toArray) ⟨rfl,rfl,rfl,by simp [World.setRow],eo _⟩ (fun k hk=>setRow_other w b k _ hk)
    ⟨cells.take (lo' *r.sz)++(List.replicate (xs.length-lo') z).flatten,⟨_,hset,by rw [hl2];exact g2,g3,by simp only [Gw,kj,DZ,Dd,CM];omega,hcl⟩,by rw [hld];exact rs hsp (vw V S _),fun k hk=>by rw [<-qE hk];exact hno'⟩ hno'
   ·exact k _ _ S ⟨st.ext.step q1 (fun c hc=>hbase c (by rw [hc];rfl)),q2,q3,st.facts⟩
end

def nQ{α:Type}(r:Rp α)(n:Nat):Rp (List α) where
 sz:=n*r.sz
 agg:=true
 rc:=fun S cs xs=>xs.length=n/\rh r S cs xs
 mono:=fun h ⟨Y,X⟩=>⟨Y,sm h X⟩
 len:=fun⟨Y,X⟩=>by rw [kI X,Y]
 one:=fun⟨_,X⟩=>yK X
 sc:=fun h=>by cases h
section
section
variable{ty:TypeId}
def Ga{i:Int}(D:E.P.underlying t=some (.array n e))(ti:TI E.P e sz bytes agg z)(hsz:r.sz=sz)(V:aJ E.N G x (dk (nQ r n) xs))(hi:aJ E.N G ix (tD (rI k) i))(hy:gV xs i=some y):
  cu E O G ⟨dst,.indexAddr t x ix,ty,pos,after,g⟩ (dk r y):=
 .of_pure fun a w S _ _ hf=>by
  subst hsz
  obtain⟨b,off,c,T,fr,Y,X,d,h4⟩:=V S a hf
  have h5:a.eval ix= .int k i:=dI.1 (hi S a hf)
  obtain⟨h0,hy'⟩:=nq hy
  have hlt:i.toNat<xs.length:=(sy.1 hy').1
  have hc:0<=i/\i<(n:Int):=⟨h0,by omega⟩
  refine⟨.pointer (some ⟨b,off+i.toNat*r.sz,none⟩),?_,b,_,c,T,fr,rfl,X,?_⟩
  ·simp [execOp,Y,h5,Instr.indexAt,asIntOf,jt D,Instr.sureAddr,hc,ti.sizeOf,jq]
  ·have h6:=A1 h4 hy'
   rw [zf,Ax,sJ]at h6
   have hmul:i.toNat*r.sz+r.sz<=n*r.sz:=by rw [<-Nat.succ_mul];exact AC _ (by omega)
   have hmin:min r.sz ((nQ r n).sz-i.toNat*r.sz)=r.sz:=by
    show min r.sz (n*r.sz-i.toNat*r.sz)=r.sz
    omega
   rwa [hmin]at h6
def jK{i:Int}(D:E.P.underlying t=some (.array n e))(ti:TI E.P e sz bytes agg z)(hm:Q (nQ r n) T b xs∈O)(V:aJ E.N G x (Z (M b 0)))(hi:aJ E.N G ix (tD (rI k) i))(hy:gV xs i=some y):
  cu E O G ⟨dst,.indexAddr t x ix,ty,pos,after,g⟩ (Z (M b (i.toNat*sz))):=
 .of_pure fun a w S _ ho hf=>by
  have Y:a.eval x=M b 0:=V S a hf
  have h5:a.eval ix= .int k i:=dI.1 (hi S a hf)
  obtain⟨⟨_,c,_,h4,_⟩,_⟩:=ho.mem _ hm
  obtain⟨h0,hy'⟩:=nq hy
  have hlt:i.toNat<xs.length:=(sy.1 hy').1
  have hc:0<=i/\i<(n:Int):=⟨h0,by omega⟩
  refine⟨_,?_,rfl⟩
  simp [execOp,Y,h5,M,Instr.indexAt,asIntOf,jt D,Instr.sureAddr,hc,ti.sizeOf,jq]
end
def Vt{i:Int}(hy:gV xs i=some y){cs:List Value}(h:(nQ r n).rc S cs xs):r.rc S ((cs.drop (i.toNat*r.sz)).take r.sz) y:=A1 h.2 (nq hy).2
def Bc{i:Int}{p:Operand}{ty:TypeId}(ti:TI E.P U sz bytes agg z)(hsz:r.sz=sz)(hag:r.agg=agg)(hm:Q (nQ r n) T b xs∈O)(hy:gV xs i=some y)(hp:aJ E.N G p (Z (M b (i.toNat*r.sz)))):cu E O G ⟨dst,.load U p,ty,pos,after,g⟩ (tD r y):=
 .of_pure fun a w S _ ho hf=>by
  have Y:a.eval p=M b (i.toNat*r.sz):=hp S a hf
  obtain⟨⟨_,cur,h5,h6⟩,_⟩:=ho.mem _ hm
  have h7:=Vt hy h6
  refine⟨_,?_,_,rfl,h7⟩
  simp [execOp,Y,M,Instr.loadAt,Instr.sureAddr,lh ti h5 hsz hag h7]
def yY{v:α}{i:Int}{p:Operand}{ty:TypeId}(ti:TI E.P U sz bytes agg z)(hsz:r.sz=sz)(hy:gV xs i=some y)(hz:xs.set i.toNat v=zs)(hp:aJ E.N G p (Z (M b (i.toNat*r.sz))))(hv:aJ E.N G x (tD r v))(k:RG E ops bx rest (Q (nQ r n) T b zs::O) G):RG E ops bx (⟨none,.store U p x,ty,pos,after,none⟩::rest) (Q (nQ r n) T b xs::O) G:= .of rfl fun a w S st=>by
 subst hz
 have Y:a.eval p=M b (i.toNat*r.sz):=hp S a st.facts
 obtain⟨ds,X,d⟩:=hv S a st.facts
 obtain⟨⟨hno,cur,h5,h6⟩,_⟩:=st.own.1
 obtain⟨h0,hy'⟩:=nq hy
 have hlt:i.toNat<xs.length:=(sy.1 hy').1
 have hl:=kI h6.2
 simp only [CM]at hl
 have hmul:i.toNat*r.sz+r.sz<=xs.length*r.sz:=by rw [<-Nat.succ_mul];exact AC _ hlt
 obtain⟨w',hr,e1,e2,e3,e4,e5,e6⟩:=km ti hsz d h5 (off:=i.toNat*r.sz) (by omega)
 have hrun:(execOp a.eval ⟨none,.store U p x,ty,pos,after,none⟩).run E.P w= .ok .skip w' :=by
  simp [execOp,Y,X,Instr.storeAt,M,Instr.sureAddr,hr]
 refine⟨fun c h=>(by cases h),?_⟩
 rw [hrun]
 obtain⟨g1,g2,g3⟩:=ny (O:=O) st.sat (Q (nQ r n) T b xs) (Q (nQ r n) T b (xs.set i.toNat v)) st.own (fun _=>tv) (fun _=>tv) ⟨e1,e2,e3,e4.1,e4.2⟩ e6 ⟨hno,_,e5,by rw [BX];exact h6.1,Dy d h6.2 hlt⟩ hno
 exact k _ _ S ⟨st.ext.step g1 (fun c hc=>st.own.1.2 c hc),g2,g3,st.facts⟩
end
def zn{α:Type}{r:Rp α}{c:Value}{x:α}(h: ∀S,r.rc S [c] x)(S:SH): ∀n,rh r S (List.replicate n c) (List.replicate n x)
 |0=>rfl
 |n+1=>⟨[c],_,rfl,h S,zn h S n⟩
def BK{c:Value}{x:α}(n:Nat)(h: ∀S,r.rc S [c] x): ∀S,(nQ r n).rc S (List.replicate n c) (List.replicate n x):=fun S=>⟨Ea,zn h S n⟩
def Yx(n:Nat):Option Unit:=if n<=68719476736 then some ()else none
def gt0(n:Int):Option Unit:=if 0<n then some ()else none
def Tb{n:Int}(h:gt0 n=some u):0<n:=by
 unfold gt0 at h
 split at h
 ·assumption
 ·cases h
def Uk{e:Exit}(mm:Bool)(r:Rp α)(T:TypeId)(h:AT E bx e (ml mm r T none 0 []::O) G):AT E bx e O G:=fun a w S st=>h a w S (st.fresh mm r T)
def Hx{x:α}(h:dQ xs lo (xs.length:Int)=some ys)(hz:xs.take lo.toNat++List.replicate ys.length x=zs):zs.length=xs.length:=by
 obtain⟨l,m,rfl,hm,Y,X,rfl⟩:=fW h
 have hm' :m=xs.length:=by omega
 subst hm'
 rw [<-hz]
 simp
 omega

def tC(n:FuncId)(cts:List Ty):Ty where
 p:=fun S v=> ∃cap:List Value,v= .func (.func n) #[] cap.toArray/\xn S cts cap
 mono:=fun h ⟨cap,e,k⟩=>⟨cap,e,xn.mono h k⟩
section
section
variable{ty:TypeId}
def vz{fid:FuncId}{caps:List Operand}{cts:List Ty}(hcap:kQ E.N G caps cts):cu E O G ⟨dst,.makeFunc (.func fid) #[] caps.toArray,ty,pos,after,g⟩ (tC fid cts):=
 .of_pure fun a w S _ _ hf=>⟨.func (.func fid) #[] (caps.map a.eval).toArray,by simp [execOp,Instr.makeFunc],_,rfl,hcap.tys hf⟩
end
def tq{n:FuncId}{cts:List Ty}{ty:TypeId}{fo:Operand}{xs:List Operand}(O1 Or:List OE){t:OI->Ty}{O2:OI->List OE}(hO:O=O1++Or)(hc:ak E.P n=true)(hs:bk E.P n (ts++cts) O1 t O2)(hf:aJ E.N G fo (tC n cts))(V:kQ E.N G xs ts)(hpost: ∀i,O2 i++Or=post i):
  EffOK E O G ⟨some h3,.call ⟨.value fo,xs.toArray,ats⟩,ty,pos,after,g⟩ post t:=fun a w S hsat ho hF H=>by
 subst hO
 obtain rfl:(fun i=>O2 i++Or)=post:=funext hpost
 obtain⟨cap,e,hcap⟩:=hf S a hF
 have hr:(execOp a.eval ⟨some h3,.call ⟨.value fo,xs.toArray,ats⟩,ty,pos,after,g⟩).run E.P w= .ok (.enter n ((xs.map a.eval).toArray++cap.toArray)) w:=by
  simp [execOp,resolve,e,Deferred.ofValue,invoke,iK hc]
 refine⟨fun c h=>(by cases h),?_⟩
 rw [hr]
 have e2:(xs.map a.eval).toArray++cap.toArray=((xs.map a.eval)++cap).toArray:=by simp
 rw [e2]
 exact(hs w S _ hsat ((V.tys hF).append hcap) (qC ho).1.weak).mono fun en w' ⟨i,v,S',he,hv,Y,X,d,h4⟩=>⟨_,he,v,S',i,rfl,Y.more fun b ⟨f,hf,H⟩=>⟨f,D8 _ hf,H⟩,X,eD.turn ho H Y d h4,hv⟩
end

def Gh{α:Type}(xs:List α)(lo:Int)(n:Nat)(i:Int):Option α:=if 0<=i/\i<(n:Int)then gV xs (lo+i)else none
def yU{i:Int}(h:Gh xs lo n i=some y):0<=i/\i<(n:Int)/\gV xs (lo+i)=some y:=by
 unfold Gh at h
 split at h
 ·rename_i hc;exact⟨hc.1,hc.2,h⟩
 ·cases h
def B8(h:dQ xs lo hi=some ys):0<=lo:=by
 obtain⟨l,m,rfl,_,_,_,_⟩:=fW h
 omega
section
def q8(hm:ml mm r T l cap xs∈O)(hs:dQ xs lo hi=some ys)(h:(l=none->ys.length=0)/\ys.length<=maxLen->RG E ops bx rest O G):RG E ops bx rest O G:=fun a w S st=>by
 refine h ?_ a w S st
 obtain⟨cells,Y,_⟩:=(st.own.mem _ hm).1
 obtain⟨l',m,_,_,_,h8,rfl⟩:=fW hs
 have hlen:((xs.take m).drop l').length<=xs.length:=by simp;omega
 cases l with
 |none=>have:=Y.1;exact⟨fun _=>by omega,by omega⟩
 |some b=>obtain⟨cur,_,g2,g3,_⟩:=Y;exact⟨fun h=>(by cases h),by omega⟩
section
variable{ty:TypeId}
def Ox{lo:Nat}(D:E.P.underlying t=some (.slice e))(hv:l=none->n=0)(V:aJ E.N G x (Z (nP sz l cap lo n))):
  cu E O G ⟨dst,.call ⟨.builtin .len,#[x],#[t]⟩,ty,pos,after,g⟩ (tD (rI .i64) (n:Int)):=
 .of_pure fun a w S _ ho hf=>by
  have Y:a.eval x=nP sz l cap lo n:=V S a hf
  obtain⟨ad,c,d⟩: ∃ad c,nP sz l cap lo n= .slice ad n c:=by
   cases l with
   |none=>rw [hv rfl];exact⟨none,0,rfl⟩
   |some b=>exact⟨_,_,rfl⟩
  refine⟨.int .i64 n,?_,dI.2 rfl⟩
  simp [execOp,resolve,invoke,builtin,Builtin.len_,jt D,Y,d,goInt]
def vb{i:Int}(D:E.P.underlying t=some (.slice e))(ti:TI E.P e sz bytes agg z)(hsz:r.sz=sz)(hm:ml mm r U l cap xs∈O)(hl0:0<=lo)(V:aJ E.N G x (Z (nP sz l cap lo.toNat n)))(hi' :aJ E.N G ix (tD (rI k) i))(hy:Gh xs lo n i=some y):
  cu E O G ⟨dst,.indexAddr t x ix,ty,pos,after,g⟩ (Z (Ap l ((lo+i).toNat*sz+0))):=
 .of_pure fun a w S _ ho hf=>by
  subst hsz
  have Y:a.eval x=nP r.sz l cap lo.toNat n:=V S a hf
  have d:a.eval ix= .int k i:=dI.1 (hi' S a hf)
  obtain⟨hi0,hin,hxi⟩:=yU hy
  obtain⟨_,hx'⟩:=nq hxi
  obtain⟨b,cur,rfl,_,hle,_⟩:=xM (ho.mem _ hm).1 hx'
  have hlt2:(lo+i).toNat<xs.length:=(sy.1 hx').1
  have hne: ¬(cap=lo.toNat):=by omega
  refine⟨_,?_,rfl⟩
  have hc:0<=i/\i<(n:Int):=⟨hi0,hin⟩
  have e1:(lo+i).toNat=lo.toNat+i.toNat:=by omega
  simp [execOp,Y,d,nP,hne,Instr.indexAt,asIntOf,jt D,hc,ti.sizeOf,jq,Ap,M,e1,xo]
end
end

section
variable{ty:TypeId}{l:List Oper}
end

def uo{κ β:Type} [DecidableEq κ]:List (κ×β)->κ->Option β
 |[],_=>none
 |p::m,k=>if p.1=k then some p.2 else uo m k
def gC{κ β:Type} [DecidableEq κ]:List (κ×β)->κ->β->List (κ×β)
 |[],k,v=>[(k,v)]
 |p::m,k,v=>if p.1=k then(k,v)::m else p::gC m k v
def LJ{κ:Type}(P:Program)(kt:TypeId)(kv:κ->Value):Prop:= ∃h3,P.underlying kt=some h3/\(∀a,MapKept.IsKey h3 (kv a))/\ ∀a b,kv a=kv b->a=b
def WV(k:IntKind)(n:Int):Value:= .int k n
def jh{kt:TypeId}(h:P.underlying kt=some (.int k)):LJ P kt (WV k):=⟨_,h,fun _=>rfl,fun a b e=>by injection e⟩
structure MV(β:Type) where
 p:World->SH->β->Option Nat×Nat->Value->Prop
 here: ∀{w S y o v},p w S y o v-> ∀j,o.1=some j->j<w.heap.size
 kept: ∀{C w w' S S' y o v},p w S y o v->kw C w S w' S' ->(∀j,o.1=some j-> ¬C j)->p w' S' y o v
def OC{β:Type}(ty:β->Ty):MV β where
 p:=fun _ S y o v=>o.1=none/\(ty y).p S v
 here:=fun h j hj=>by rw [h.1]at hj;cases hj
 kept:=fun h k _=>⟨h.1,(ty _).mono k.keep h.2⟩
section
variable{κ:Type} [DecidableEq κ]{hx:MV β}{kv:κ->Value}{h3:TypeDesc}{k:κ}
def xk(hx:MV β)(kv:κ->Value)(w:World)(S:SH)(h:Option κ):List MapEntry->List (Option Nat×Nat)->List (κ×β)->Prop
 |[],[],[]=>True
 |e::es,o::os,q::m=>e.key=kv q.1/\(if h=some q.1 then o.1=none else hx.p w S q.2 o e.val)/\(∀o' ∈os,∀j,o.1=some j->o'.1≠some j)/\(∀p∈m,p.1≠q.1)/\xk hx kv w S h es os m
 |_,_,_=>False
def Hq{h:Option κ}: ∀{es:List MapEntry} {os:List (Option Nat×Nat)} {m:List (κ×β)},xk hx kv w S h es os m-> ∀o∈os,∀j,o.1=some j->j<w.heap.size
 |[],[],[],_,o,ho,_,_=>by cases ho
 |e::es,o::os,q::m,⟨_,X,_,_,h5⟩,o',ho,j,hj=>by
  rcases jl.1 ho with rfl|ho
  ·split at X
   ·rw [X]at hj;cases hj
   ·exact hx.here X j hj
  ·exact Hq h5 o' ho j hj
def BB{C:Nat->Prop}(k:kw C w S w' S'){h:Option κ}: ∀{es:List MapEntry} {os:List (Option Nat×Nat)} {m:List (κ×β)},xk hx kv w S h es os m->(∀o∈os,∀j,o.1=some j-> ¬C j)->xk hx kv w' S' h es os m
 |[],[],[],_,_=>trivial
 |e::es,o::os,q::m,⟨Y,X,d,h4,h5⟩,hC=>⟨Y,by
  split
  ·rename_i hh;rw [bh hh]at X;exact X
  ·rename_i hh;rw [aQ hh]at X;exact hx.kept X k (hC o (nM ..)),d,h4,BB k h5 fun o' ho=>hC o' (pK _ ho)⟩
def C5{h:Option κ}: ∀{es:List MapEntry} {os:List (Option Nat×Nat)} {m:List (κ×β)},xk hx kv w S h es os m->(∀p∈m,h≠some p.1)->xk hx kv w S none es os m
 |[],[],[],_,_=>trivial
 |e::es,o::os,q::m,⟨Y,X,d,h4,h5⟩,hk=>⟨Y,by
  rw [aQ (hk q (nM ..))]at X
  rw [aQ (by simp)];exact X,d,h4,C5 h5 fun p hp=>hk p (pK _ hp)⟩
def sU(hd: ∀a,MapKept.IsKey h3 (kv a))(hi: ∀a b,kv a=kv b->a=b)(a b:κ):Instr.sameNow h3 (kv a) (kv b)=some (decide (a=b)):=by
 obtain⟨r,Y,X⟩:=MapKept.sameNow_of_keys (hd a) (hd b)
 rw [Y]
 by_cases h:a=b
 ·subst h;rw [X.2 rfl];simp
 ·rw [CJ h]
  cases r with
  |false=>rfl
  |true=>exact absurd (hi _ _ (X.1 rfl)) h
def wJ(hd: ∀a,MapKept.IsKey h3 (kv a))(hi: ∀a b,kv a=kv b->a=b): ∀{es:List MapEntry} {os:List (Option Nat×Nat)} {m:List (κ×β)} (i:Nat),xk hx kv w S none es os m->
  ∃os',(∀x∈os',x∈os\/x.1=none)/\xk hx kv w S (some k) es os' m/\
   ((uo m k=none/\Instr.findNow h3 (kv k) es i=some none)\/ ∃(y:β) (o:Option Nat×Nat) (e:MapEntry) (j:Nat),uo m k=some y/\o∈os/\hx.p w S y o e.val/\Instr.findNow h3 (kv k) es i=some (some (j,e.val))/\ ∀x∈os',∀q,o.1=some q->x.1≠some q)
 |[],[],[],i,_=>⟨[],fun x V=>(by cases V),trivial,.inl ⟨rfl,rfl⟩⟩
 |e::es,o::os,q::m,i,⟨Y,X,d,h4,h5⟩=>by
  rw [aQ (by simp)]at X
  by_cases hk:q.1=k
  ·refine⟨(none,0)::os,fun x V=>?_,⟨Y,by rw [bh (by rw [hk])],fun _ _ _ hj=>(by cases hj),h4,?_⟩,.inr ⟨q.2,o,e,i,by unfold uo;rw [bh hk],nM ..,X,?_,fun x V j hj=>?_⟩⟩
   ·rcases jl.1 V with rfl|V
    ·exact .inr rfl
    ·exact .inl (pK _ V)
   ·have: ∀{es:List MapEntry} {os:List (Option Nat×Nat)} {m:List (κ×β)},xk hx kv w S none es os m->(∀p∈m,p.1≠k)->xk hx kv w S (some k) es os m:=by
     intro es
     induction es with
     |nil=>intro os m h _;cases os<;>cases m<;>first|trivial|exact h.elim
     |cons e es ih=>
      intro os m h hm
      cases os with
      |nil=>cases m<;>exact h.elim
      |cons o os=>
       cases m with
       |nil=>exact h.elim
       |cons q m=>
        obtain⟨g1,g2,g3,g4,g5⟩:=h
        rw [aQ (by simp)]at g2
        exact⟨g1,by rw [aQ (fun e=>hm q (nM ..) (qE e).symm)];exact g2,g3,g4,ih g5 fun p hp=>hm p (pK _ hp)⟩
    exact this h5 (fun p hp=>by rw [<-hk];exact h4 p hp)
   ·unfold Instr.findNow
    rw [Y,sU hd hi,hk,decide_eq_true rfl]
   ·rcases jl.1 V with rfl|V
    ·exact fun e=>by cases e
    ·exact d x V j hj
  ·obtain⟨os',g1,g2,g3⟩:=wJ hd hi (i+1) h5
   refine⟨o::os',fun x V=>?_,⟨Y,by rw [aQ (fun e=>hk (qE e).symm)];exact X,fun o' ho' j hj=>?_,h4,g2⟩,?_⟩
   ·rcases jl.1 V with rfl|V
    ·exact .inl (nM ..)
    ·exact(g1 x V).imp (pK _) id
   ·rcases g1 o' ho' with h|h
    ·exact d o' h j hj
    ·rw [h];exact fun e=>by cases e
   ·have hf:Instr.findNow h3 (kv k) (e::es) i=Instr.findNow h3 (kv k) es (i+1):=by
     conv=>lhs;unfold Instr.findNow
     rw [Y,sU hd hi,CJ (fun e=>hk e.symm)]
    have hm:uo (q::m) k=uo m k:=by conv=>lhs;unfold uo;rw [aQ hk]
    rw [hf,hm]
    refine g3.imp id fun⟨y,o1,e1,j,f1,f2,f3,f4,f5⟩=>⟨y,o1,e1,j,f1,pK _ f2,f3,f4,fun x V q hq=>?_⟩
    rcases jl.1 V with rfl|V
    ·exact fun e=>d o1 f2 q e hq
    ·exact f5 x V q hq
def KN(x:α)(xs:List α)(j:Nat)(f:α->α):(x::xs).modify (j+1) f=x::xs.modify j f:=by simp [List.modify_succ_cons]
def Hr(hd: ∀a,MapKept.IsKey h3 (kv a))(hi: ∀a b,kv a=kv b->a=b){y:β}{o:Option Nat×Nat}{v:Value}{born:Nat}(hv:hx.p w S y o v): ∀{es:List MapEntry} {os:List (Option Nat×Nat)} {m:List (κ×β)} (i:Nat),xk hx kv w S (some k) es os m->(∀o' ∈os,∀j,o.1=some j->o'.1≠some j)->
    ∃os',(∀x∈os',x∈os\/x=o)/\
      ((∃(j:Nat) (e:MapEntry),Instr.findNow h3 (kv k) es i=some (some (i+j,e.val))/\es[j]? =some e/\e.key=kv k/\xk hx kv w S none (es.modify j fun e=>{e with key:=kv k,val:=v}) os' (gC m k y))\/
        (Instr.findNow h3 (kv k) es i=some none/\xk hx kv w S none (es++[⟨kv k,v,born⟩]) os' (gC m k y)))
  |[],[],[],i,_,_=>⟨[o],fun x V=> .inr (uk.1 V),.inr ⟨rfl,⟨rfl,by rw [aQ (by simp)];exact hv,fun _ h=>(by cases h),fun _ h=>(by cases h),trivial⟩⟩⟩
  |e::es,o1::os,q::m,i,⟨Y,X,d,h4,h5⟩,ha=>by
    by_cases hk:q.1=k
    · refine⟨o::os,fun x V=>?_,.inl ⟨0,e,?_,rfl,by rw [Y,hk],?_⟩⟩
      · rcases jl.1 V with rfl|V
        · exact .inr rfl
        · exact .inl (pK _ V)
      · unfold Instr.findNow
        rw [Y,sU hd hi,hk,decide_eq_true rfl]
        rfl
      · unfold gC
        rw [bh hk,List.modify_zero_cons]
        exact⟨rfl,by rw [aQ (by simp)];exact hv,fun o' ho' =>ha o' (pK _ ho'),fun p hp=>by rw [<-hk];exact h4 p hp,
          C5 h5 fun p hp e=>h4 p hp (by rw [hk];exact(qE e).symm)⟩
    · obtain⟨os',g1,g2⟩:=Hr hd hi (born:=born) hv (i+1) h5 fun o' ho' =>ha o' (pK _ ho')
      rw [aQ (fun e=>hk (qE e).symm)]at X
      have hf:Instr.findNow h3 (kv k) (e::es) i=Instr.findNow h3 (kv k) es (i+1):=by
        conv=>lhs;unfold Instr.findNow
        rw [Y,sU hd hi,CJ (fun e=>hk e.symm)]
      have hm:gC (q::m) k y=q::gC m k y:=by conv=>lhs;unfold gC;rw [aQ hk]
      have hap: ∀o' ∈os',∀j,o1.1=some j->o'.1≠some j:=fun o' ho' j hj=>by
        rcases g1 o' ho' with h|rfl
        · exact d o' h j hj
        · exact fun e=>ha o1 (nM ..) j e hj
      have hne: ∀p∈gC m k y,p.1≠q.1:=by
        have: ∀m:List (κ×β),(∀p∈m,p.1≠q.1)-> ∀p∈gC m k y,p.1≠q.1:=by
          intro m
          induction m with
          |nil=>intro _ p hp;rw [uk.1 hp];exact fun e=>hk e.symm
          |cons p0 m ih=>
            intro hm p hp
            unfold gC at hp
            split at hp
            · rcases jl.1 hp with rfl|hp
              · exact fun e=>hk e.symm
              · exact hm p (pK _ hp)
            · rcases jl.1 hp with rfl|hp
              · exact hm _ (nM ..)
              · exact ih (fun p hp=>hm p (pK _ hp)) p hp
        exact this m h4
      rw [hf,hm]
      refine⟨o1::os',fun x V=>?_,g2.imp (fun⟨j,e',f1,f2,f3,f4⟩=>⟨j+1,e',by rw [f1];congr 3;omega,by simpa using f2,f3,?_⟩) fun⟨f1,f2⟩=>⟨f1,?_⟩⟩
      · rcases jl.1 V with rfl|V
        · exact .inl (nM ..)
        · exact(g1 x V).imp (pK _) id
      · rw [KN]
        exact⟨Y,by rw [aQ (by simp)];exact X,hap,hne,f4⟩
      · exact⟨Y,by rw [aQ (by simp)];exact X,hap,hne,f2⟩
def Hp{h:Option κ}: ∀{es:List MapEntry} {os:List (Option Nat×Nat)} {m:List (κ×β)},xk hx kv w S h es os m-> ∀x∈es,∃q∈m,x.key=kv q.1
 |[],[],[],_,x,V=>by cases V
 |e::es,o::os,q::m,⟨Y,_,_,_,h5⟩,x,V=>by
  rcases jl.1 V with rfl|V
  ·exact⟨q,nM ..,Y⟩
  ·obtain⟨q',g1,g2⟩:=Hp h5 x V
   exact⟨q',pK _ g1,g2⟩
def QN(hd: ∀a,MapKept.IsKey h3 (kv a)){h:Option κ}{es:List MapEntry}{os:List (Option Nat×Nat)}{m:List (κ×β)}(h4:xk hx kv w S h es os m)(g1:Instr.findNow h3 (kv k) es i=some none){x:MapEntry}(V:x∈es):x.key≠kv k:=by
 rcases MapKept.findNow_spec (hd k) es i (fun y hy=>by obtain⟨q,_,e⟩:=Hp h4 y hy;rw [e];exact hd _)with⟨_,X⟩|⟨j,e,X,_⟩
 ·exact X x V
 ·rw [g1]at X;cases X
def Bi(hx:MV β)(kv:κ->Value)(b:Nat)(h:Option κ)(os:List (Option Nat×Nat))(m:List (κ×β)):OE where
 fp:=fun j=>j=b\/ ∃o∈os,o.1=some j
 p:=fun w S=>S b=none/\(∀o∈os,o.1≠some b)/\ ∃es clock,w.heap[b]? =some (.map es clock)/\xk hx kv w S h es.toList os m/\MapKept.Stamped es clock
 here:=by
  intro w S ⟨_,_,es,clock,d,h4,_⟩ j hj
  rcases hj with rfl|⟨o,ho,hj⟩
  ·exact(HS.1 d).1
  ·exact Hq h4 o ho j hj
 kept:=by
  intro C w w' S S' ⟨Y,X,es,clock,d,h4,hst⟩ k hC
  have hlt:=(HS.1 d).1
  exact⟨by rw [k.old b hlt (hC b (.inl rfl))];exact Y,X,es,clock,by rw [k.heap b hlt (hC b (.inl rfl))];exact d,BB k h4 (fun o ho j hj=>hC j (.inr ⟨o,ho,hj⟩)),hst⟩
def vd(b:Nat):Value:= .map (some b)
end
section
variable{κ:Type} [DecidableEq κ]{hx:MV β}{kv:κ->Value}{os:List (Option Nat×Nat)}{m:List (κ×β)}{k:κ}{kt et:TypeId}{i v:Operand}{dst:Option Nat}{ty:TypeId}
def Pz(N:Fr)(G:mg)(x:Operand)(u:Value):Prop:= ∀S a,bS N S a G->a.eval x=u
def uq{N:Fr}{q:IntKind}{n:Int}(h:aJ N G x (tD (rI q) n)):Pz N G x (WV q n):=fun S a hf=>dI.1 (h S a hf)
def ZV(P:Program)(T:TypeId)(z:Value):Prop:=(P.info? T).bind (·.zero)=some z
def ZV.run{z:Value}(h:ZV P T z)(w:World):(zeroValue T).run P w= .ok z w:=by
 unfold ZV at h
 cases hi:P.info? T with
 |none=>rw [hi]at h;cases h
 |some i=>
  rw [hi]at h
  have h' :i.zero=some z:=h
  simp [zeroValue,typeInfo,hi,h']
def FB(hx:MV β)(kv:κ->Value)(hd:Nat.blt h3 E.N.n=true)(k: ∀b,RG E ops bx rest (Bi hx kv b none [] []::O) ((h3,Z (vd b))::G)):
  RG E ops bx (⟨some h3,.makeMap t none,ty,pos,after,none⟩::rest) O G:= .of rfl fun a w S st=>by
 obtain⟨he,hs',hno⟩:=jP (w:=w) (.map #[] 0) st.sat
 have hrun:(execOp a.eval ⟨some h3,.makeMap t none,ty,pos,after,none⟩).run E.P w= .ok (.value (vd w.heap.size)) (w.alloc (.map #[] 0)):=by
  simp [execOp,Instr.makeMap,vd]
 refine⟨fun c h=>(by cases h),?_⟩
 rw [hrun]
 exact k w.heap.size _ _ S ⟨st.ext.step0 he,hs',rY st.own he ⟨hno,fun _ h=>(by cases h),#[],0,xx w _,trivial,MapKept.stamped_empty 0⟩ (fun b H=>by
  rcases H with rfl|⟨_,h,_⟩
  ·exact eo _
  ·cases h) st.base_le,st.facts.put hd rfl⟩
def rO{kk:Value}{es:Array MapEntry}{clock:Nat}{q:TypeDesc}{z:Value}{u:Option (Nat×Value)}(hm:P.underlying t=some (.map kt et))(hq:P.underlying kt=some q)(hk:MapKept.IsKey q kk)(H:w.heap[b]? =some (.map es clock))(hz:ZV P et z)(hf:Instr.findNow q kk es.toList 0=some u)(c:Bool):(Instr.lookup t (vd b) kk c).run P w= .ok (if c then .tuple #[(u.map (·.2)).getD z,.bool u.isSome]else(u.map (·.2)).getD z) w:=by
 cases u with
 |none=>simp [Instr.lookup,vd,jt hm,NV H,NT hq hk,MapKept.run_findKey hq hf,hz.run,Result.andThen]
 |some r=>simp [Instr.lookup,vd,jt hm,NV H,NT hq hk,MapKept.run_findKey hq hf,Result.andThen]
def KH{γ:β->Ty}{z:β}{zv:Value}(hm:E.P.underlying t=some (.map kt et))(hk:LJ E.P kt kv)(hz:ZV E.P et zv)(hzt: ∀S,(γ z).p S zv)(hmem:Bi (OC γ) kv b none os m∈O)(V:aJ E.N G x (Z (vd b)))(hi:Pz E.N G i (kv k)):
  cu E O G ⟨dst,.lookup t x i true,ty,pos,after,g⟩ (tT [γ ((uo m k).getD z),tD rB (uo m k).isSome]):= .of_pure fun a w S hs ho hf=>by
 obtain⟨⟨_,_,es,clock,d,h4,_⟩,_⟩:=eD.mem ho _ hmem
 obtain⟨q,hq,hd,hinj⟩:=hk
 have Y:a.eval x=vd b:=V S a hf
 have X:a.eval i=kv k:=hi S a hf
 obtain⟨_,_,_,h5⟩:=wJ hd hinj (k:=k) 0 h4
 rcases h5 with⟨g1,g2⟩|⟨y,o,e,j,g1,g2,g3,g4,g5⟩
 ·refine⟨.tuple #[zv,.bool false],by simp [execOp,Y,X,rO hm hq (hd k) d hz g2],[zv,.bool false],rfl,by rw [g1];exact hzt S,ju.2 (by rw [g1];rfl),trivial⟩
 ·refine⟨.tuple #[e.val,.bool true],by simp [execOp,Y,X,rO hm hq (hd k) d hz g4],[e.val,.bool true],rfl,by rw [g1];exact g3.2,ju.2 (by rw [g1];rfl),trivial⟩
def Ca{kk:Value}{es:Array MapEntry}{clock:Nat}{q:TypeDesc}{val:Value}(hm:P.underlying t=some (.map kt et))(hq:P.underlying kt=some q)(hk:MapKept.IsKey q kk)(H:w.heap[b]? =some (.map es clock)):
  (Instr.findNow q kk es.toList 0=some none->(Instr.mapUpdate t (vd b) kk val).run P w= .ok () {w with heap:=w.heap.setIfInBounds b (.map (es.push ⟨kk,val,clock⟩) (clock+1))})/\
  (∀j e,Instr.findNow q kk es.toList 0=some (some (j,e))->(∀e',es.toList[j]? =some e' ->e'.key=kk)->(∃e',es.toList[j]? =some e')->(Instr.mapUpdate t (vd b) kk val).run P w= .ok () {w with heap:=w.heap.setIfInBounds b (.map (es.modify j fun e=>{e with key:=kk,val:=val}) clock)}):=by
 refine⟨fun hf=>?_,fun j e hf hj he=>?_⟩
 ·simp [Instr.mapUpdate,vd,jt hm,NV H,NT hq hk,MapKept.run_findKey hq hf,MapKept.run_setObj_map _ H,Result.andThen]
 ·obtain⟨e',he'⟩:=he
  have Y:=hj e' he'
  have X:es[j]? =some e' :=by simpa using he'
  simp [Instr.mapUpdate,vd,jt hm,NV H,NT hq hk,MapKept.run_findKey hq hf,MapKept.run_setObj_map _ H,Result.andThen,X,Y,MapKept.run_keyThatStays hk]
def QA{y:β}{o:Option Nat×Nat}{val:Value}(hs:mA w S)(hm:E.P.underlying t=some (.map kt et))(hk:LJ E.P kt kv)(hp:(Bi hx kv b (some k) os m).p w S)(hv:hx.p w S y o val)(hob:o.1≠some b)(hap: ∀o' ∈os,∀j,o.1=some j->o'.1≠some j):
  ∃w' os',(Instr.mapUpdate t (vd b) (kv k) val).run E.P w= .ok () w' /\kw (fun j=>j=b) w S w' S/\mA w' S/\(Bi hx kv b none os' (gC m k y)).p w' S/\(∀j,(Bi hx kv b none os' (gC m k y)).fp j->(Bi hx kv b (some k) os m).fp j\/o.1=some j):=by
 obtain⟨hno,hnb,es,clock,d,h4,hst⟩:=hp
 obtain⟨q,hq,hdk,hinj⟩:=hk
 obtain⟨os',p1,p2⟩:=Hr hdk hinj (born:=clock) hv 0 h4 hap
 have hnb' : ∀o' ∈os',o'.1≠some b:=fun o' ho' =>by
  rcases p1 o' ho' with h|rfl
  ·exact hnb o' h
  ·exact hob
 have hfp: ∀j,(j=b\/ ∃o∈os',o.1=some j)->(j=b\/ ∃o∈os,o.1=some j)\/o.1=some j:=fun j hj=>by
  rcases hj with h|⟨o',ho',e⟩
  ·exact .inl (.inl h)
  ·rcases p1 o' ho' with h|rfl
   ·exact .inl (.inr ⟨o',h,e⟩)
   ·exact .inr e
 have hw: ∀h2:Obj,kw (fun j=>j=b) w S {w with heap:=w.heap.setIfInBounds b h2} S/\mA {w with heap:=w.heap.setIfInBounds b h2} S/\({w with heap:=w.heap.setIfInBounds b h2}:World).heap[b]? =some h2:=fun h2=>
  ⟨⟨rfl,rfl,rfl,eo _,by simp,fun j _ hj=>(MapKept.heap_set (o' :=h2) d).2 j hj,SH.le_refl _,fun _ _ _=>rfl⟩,hs.same fun j o hj=>(MapKept.heap_set (o' :=h2) d).2 j (fun e=>by subst e;rw [hno]at hj;cases hj),(MapKept.heap_set d).1⟩
 obtain⟨r1,r2⟩:=Ca (val:=val) hm hq (hdk k) d
 rcases p2 with⟨j,e,g1,g2,g3,g4⟩|⟨g1,g2⟩
 ·rw [vj]at g1
  obtain⟨x1,x2,x3⟩:=hw (.map (es.modify j fun e=>{e with key:=kv k,val:=val}) clock)
  refine⟨_,os',r2 j _ g1 (fun e' he' =>by rw [g2]at he';cases he';exact g3) ⟨_,g2⟩,x1,x2,⟨hno,hnb',_,_,x3,?_,MapKept.stamped_modify hst j _ (fun _ _=>rfl) (fun e' _ he' =>by rw [<-Array.getElem?_toList,g2]at he';cases he';exact g3.symm)⟩,hfp⟩;refine BB x1 (by rw [Array.toList_modify];exact g4) fun o' ho' j hj e=>?_
  subst e
  exact hnb' o' ho' hj
 ·obtain⟨x1,x2,x3⟩:=hw (.map (es.push ⟨kv k,val,clock⟩) (clock+1))
  refine⟨_,os',r1 g1,x1,x2,⟨hno,hnb',_,_,x3,?_,MapKept.stamped_push hst (fun x V e=>?_)⟩,hfp⟩
  rotate_left
  ·exact QN hdk h4 g1 V e
  refine BB x1 (by rw [Array.toList_push];exact g2) fun o' ho' j hj e=>?_
  subst e
  exact hnb' o' ho' hj
end

def zW(tmps:Array Value):ResultVar->Sem Value
 | .tmp t=>pure (tmps.getD t undef)
 | .cell a t=>do loadVar t (<-asAddr (tmps.getD a undef))
def Ub(P:Program)(N:Fr)(G:mg)(rv:ResultVar)(t:Ty):Prop:= ∀a w S,mA w S->bS N S a G-> ∃v,(zW a.tmps rv).run P w= .ok v w/\t.p S v
def gT{N:Fr}{k:Nat}{t:Ty}(hk:cw G k=some t):Ub P N G (.tmp k) t:=fun a w S _ hf=>⟨_,rfl,hf.at_ k t hk⟩
def tL{N:Fr}{k:Nat}{x:α}(ti:TI P T sz bytes agg z)(hsz:r.sz=sz)(hag:r.agg=agg)(hk:cw G k=some (dk r x)):Ub P N G (.cell k T) (tD r x):=fun a w S hs hf=>by
 obtain⟨b,off,c,U,fr,Y,X,d⟩:=hf.at_ k _ hk
 obtain⟨c',h4,h5⟩:=hs.part X (r.len d)
 rw [<-h5]at d
 have hl:=lh ti h4 hsz hag d
 have h1' :a.tmps[k]?.getD undef=Value.pointer (some ⟨b,off,none⟩):=by simpa [HT] using Y
 exact⟨_,by simp [zW,h1',asAddr,hl],_,rfl,d⟩
def Q5(P:Program)(N:Fr)(G:mg):List ResultVar->List Ty->Prop
 |[],[]=>True
 |rv::rvs,t::ts=>Ub P N G rv t/\Q5 P N G rvs ts
 |_,_=>False
def Q5.run{N:Fr}(hs:mA w S)(hf:bS N S a G): ∀{rvs:List ResultVar} {ts:List Ty},Q5 P N G rvs ts-> ∃vs,(rvs.mapM (zW a.tmps)).run P w= .ok vs w/\xn S ts vs/\vs.length=rvs.length
 |[],[],_=>⟨[],rfl,trivial,rfl⟩
 |rv::rvs,t::ts,⟨Y,X⟩=>by
  obtain⟨v,g1,g2⟩:=Y a w S hs hf
  obtain⟨vs,k1,k2,k3⟩:=Q5.run hs hf X
  exact⟨v::vs,by simp [List.mapM_cons,g1,k1,Result.andThen],⟨g2,k2⟩,by simp [k3]⟩
def DY{rvs:List ResultVar}(hr:fn.results=rvs.toArray)(Y:Nat.beq rvs.length 1=false)(h:Q5 P ⟨N,[]⟩ G rvs ts):
  AT ⟨P,⟨N,[]⟩,B,w0,S0,none⟩ (bodyPost P fn (Lr ⟨P,⟨N,[]⟩,B,w0,S0,none⟩ (tT ts))) .ret O G:=fun a w S st=>by
 obtain⟨vs,k1,k2,k3⟩:=h.run st.sat st.facts
 have hne: ¬vs.length=1:=by rw [k3];intro e;rw [e]at Y;cases Y
 refine⟨st.facts.defers,.tuple vs.toArray,?_,_,S,rfl,st.ext,st.sat,vs,rfl,k2⟩
 have e1:(fn.results.mapM (zW a.tmps)).run P w= .ok vs.toArray w:=by
  rw [hr,List.mapM_toArray,Sem.run_map,k1]
  rfl
 have e3:results fn a.tmps=((fn.results.mapM (zW a.tmps))>>=fun vs=>pure (if h:vs.size=1 then vs[0]else .tuple vs)):=rfl
 rw [e3,uh,e1]
 simp [Result.andThen,hne]

def RY{v:Value}(h:(tD (ga r) xs).p S v):(ga r).rc S [v] xs:=by
 obtain⟨cs,e,X⟩:=h
 obtain⟨a,cap,e2,d⟩:=X
 subst e2
 rw [e]
 exact⟨a,cap,rfl,d⟩
section
variable{ty:TypeId}
def nD{r:Rp β}{get:β->Value}{x:β}{p:Operand}(ti:TI E.P U 1 bytes false z)(hget:lH r off rV get)(hm:Q r T b x∈O)(hv:get x=av l cap n)(hp:aJ E.N G p (Z (M b off))):
  cu E O G ⟨dst,.load U p,ty,pos,after,g⟩ (Z (av l cap n)):=(aE (q:=rV) ti rfl rfl hget hm hp).imp fun _ _ h=>by rw [<-hv];exact(yE.1 h).1
def bV{o:Nat}{p:Operand}(hf:bK E.P T i=some (off,sz))(h0:Nat.beq sz 0=false)(hp:aJ E.N G p (Z (M b o)))(he:o+off=n):cu E O G ⟨dst,.fieldAddr T p i,ty,pos,after,g⟩ (Z (M b n)):=by
 subst he
 exact Gb hf h0 hp
def rX{q:Rp α}{hx:TypeId}(ho:eD base B w S O)(hm:tip q hx l cap xs∈O):(ga q).rc S [av l cap xs.length] xs:=RY (nk (ho.mem _ hm).1)
end
def vO{α β γ:Type}(r:Rp α)(r' :Rp γ)(off:Nat)(q:Rp β)(x:α)(y:β)(x' :γ):Prop:= ∀S cs ds,r.rc S cs x->q.rc S ds y->r'.rc S (cs.take off++ds++cs.drop (off+q.sz)) x'
def Io{set:α->β->α}{x:α}{y:β}(h:fa r off q set):vO r r off q x y (set x y):=fun S cs ds Y X=>h S cs x ds y Y X
variable{r' :Rp γ}
def B9{x:α}{y:γ}(hs:r.sz=r'.sz):vO r r' 0 r' x y y:=fun S cs ds Y X=>by
 have hl:=r.len Y
 rw [List.take_zero,mh,HR (by omega),p6]
 exact X
def pV{β' :Type}{p:Rp α}{q' :Rp β'}{x:α×β}{y:γ}{u:Rp γ}{off' :Nat}{x2:β'}(h:vO q q' off u x.2 y x2)(ho:off' =p.sz+off):vO (co p q) (co p q') off' u x y (x.1,x2):=fun S cs ds ⟨a,b,e,Y,X⟩ hd=>by
 have hl:=p.len Y
 have d:=h S b ds X hd
 subst e ho
 refine⟨a,_,?_,Y,d⟩
 have e1:p.sz+off-a.length=off:=by omega
 have e2:p.sz+off+u.sz-a.length=off+u.sz:=by omega
 rw [List.take_append,List.drop_append,ul (by omega),HR (by omega),e1,e2]
 simp
variable{x' :γ}
def Oc{α' β' :Type}{p:Rp α}{p' :Rp α'}{f:β->α}{f' :β' ->α'}{x:β}{x' :β'}{y:γ}{u:Rp γ}{z:α'}(h:vO p p' off u (f x) y z)(e:f' x' =z):vO (na p f) (na p' f') off u x y x' :=fun S cs ds Y X=>by
 show p'.rc S _ (f' x')
 rw [e]
 exact h S cs ds Y X
section
variable{e:Exit}{ty:TypeId}
def lr{x:α}{y:β}{p v:Operand}(ti:TI E.P U sz bytes agg z)(hsz:q.sz=sz)(hset:vO r r' off q x y x')(hoff:Nat.ble (off+q.sz) r.sz=true)(hp:aJ E.N G p (Z (M b off)))(hv:aJ E.N G v (tD q y))(k:RG E ops bx rest (Q r' T b x' ::O) G):RG E ops bx (⟨none,.store U p v,ty,pos,after,none⟩::rest) (Q r T b x::O) G:= .of rfl fun a w S st=>by
 have Y:a.eval p=M b off:=hp S a st.facts
 obtain⟨ds,X,d⟩:=hv S a st.facts
 obtain⟨⟨hno,cur,h5,h6⟩,_⟩:=st.own.1
 have hl:=r.len h6
 have hoff' :=sb hoff
 obtain⟨w',hr,e1,e2,e3,e4,e5,e6⟩:=km ti hsz d h5 (off:=off) (by simp at hl;omega)
 have hrun:(execOp a.eval ⟨none,.store U p v,ty,pos,after,none⟩).run E.P w= .ok .skip w' :=by
  simp [execOp,Y,X,Instr.storeAt,M,Instr.sureAddr,hr]
 refine⟨fun c h=>(by cases h),?_⟩
 rw [hrun]
 obtain⟨g1,g2,g3⟩:=ny (O:=O) st.sat (Q r T b x) (Q r' T b x') st.own (fun _=>tv) (fun _=>tv) ⟨e1,e2,e3,e4.1,e4.2⟩ e6 ⟨hno,_,e5,by simpa using hset S _ _ h6 d⟩ hno
 exact k _ _ S ⟨st.ext.step g1 (fun c hc=>st.own.1.2 c hc),g2,g3,st.facts⟩
def St.cvB{x:α}(h: ∀w S cs,eD E.base E.B w S O->r.rc S cs x->r'.rc S cs x')(st:St E (Q r T b x::O) G a w S):St E (Q r' T b x' ::O) G a w S:=
 st.own_map fun⟨⟨⟨Y,c,X,d⟩,h4⟩,h5,h6⟩=>⟨⟨⟨Y,c,X,h _ _ _ h6 d⟩,h4⟩,h5,h6⟩
def Ud{x:α}(h: ∀w S cs,eD E.base E.B w S O->r.rc S cs x->r'.rc S cs x')(k:RG E ops bx rest (Q r' T b x' ::O) G):RG E ops bx rest (Q r T b x::O) G:=fun a w S st=>k a w S (st.cvB h)
def vi{x:α}(h: ∀w S cs,eD E.base E.B w S O->r.rc S cs x->r'.rc S cs x')(k:AT E bx e (Q r' T b x' ::O) G):AT E bx e (Q r T b x::O) G:=fun a w S st=>k a w S (st.cvB h)
end

section
variable{b:Frame}{k:List Item}{cs:List Frame}{F:Fence}
def qm:step P (lone (b.atR a (.code (.scope c)::k)) cs w)= .next (lone (b.atR a (.code c:: .inScope c::k)) cs w):=
 step_lone_go (by simp [stepG,stepG.exec,Frame.atR])
def F0:step P (lone (b.atR a (.inScope c::k)) cs w)= .next (lone (b.atR a k) cs w):=
 step_lone_go (by simp [stepG,stepG.exec,Frame.atR])
def L7(h:c.wpIn F n P (Exit.noGoto bx) a w):(Code.scope c).wpIn F n P bx a w:=by
 intro b k cs hro H hr
 have h0:(lone (b.atR a (.code (.scope c)::k)) cs w).fenced P F:=fenced_calm H hr rfl
 obtain⟨e,a₁,w₁,hq,harr⟩:=h b (.inScope c::k) cs hro H hr
 cases e with
 |normal=>exact⟨.normal,a₁,w₁,hq,.head h0 qm (StepsIn.trans harr (.one (fenced_calm H hr rfl) F0))⟩
 |exit id=>
  have V:exitTo id (.inScope c::k)=exitTo id k:=by simp [exitTo]
  exact⟨.exit id,a₁,w₁,hq,fun k' hk=> .head h0 qm (harr.1 k' (by rw [V];exact hk)),
   fun hr' hk=>let⟨k₁,Y,X⟩:=harr.2 hr' (by rw [V];exact hk);⟨k₁,Y,.head h0 qm X⟩⟩
 |goto l=>exact hq.elim
 |ret=>exact⟨_,a₁,w₁,hq,.of_steps (.one h0 qm) harr⟩
 |panic ch=>exact⟨_,a₁,w₁,hq,.of_steps (.one h0 qm) harr⟩
 |outgrown=>exact⟨_,a₁,w₁,hq,.of_steps (.one h0 qm) harr⟩
end
section
def FP(h:CG E (Exit.noGoto bx) c O G):CG E bx (.scope c) O G:=fun a w S st=>L7 (h a w S st)
def FQ{l:Nat}(h:AT E bx .normal O G):CG E bx (.label l) O G:=fun a w S st=>wpIn_label (h a w S st)
def qD(h:AT E bx .ret O G):AT E (Exit.noGoto bx) .ret O G:=h
end

def IT [Inhabited α](h:i<m):lH (nQ r m) (i*r.sz) r (fun x=>(x[i]?).getD default):=fun S cs x ⟨Y,X⟩=>by
 have hi:x[i]? =some ((x[i]?).getD default):=by rw [sH (by omega)];rfl
 exact A1 X hi
def O6 [DecidableEq α] [Inhabited α]{t e:Nat}(D:P.underlying t=some (.array m e))(ti:TI P e sz bytes agg z)(hsz:r.sz=sz)(hag:r.agg=agg)(he:lA P e r n):lA P t (nQ r m) (n+1):=fun S cs ds x y h3 w V hy=>by
 obtain⟨i,zv,hi,hs,_⟩:=ti.get
 have hcell:P.cellsOf e=r.sz:=by unfold Program.cellsOf;rw [hi];simp [hs,hsz]
 have e1:(nQ r m).val cs= .agg cs.toArray:=rfl
 have e2:(nQ r m).val ds= .agg ds.toArray:=rfl
 rw [e1,e2,show h3+(n+1)=(h3+n)+1 from rfl,run_equalIn_array w (h3+n) cs.toArray ds.toArray D hi,List.range_eq_range',hcell]
 have key: ∀k j,j+k=m->(Op.eqItems (h3+n) e r.sz cs.toArray ds.toArray (List.range' j k)).run P w= .ok (decide (x.drop j=y.drop j)) w:=by
  intro k
  induction k with
  |zero=>
   intro j hj
   rw [HR (by have:=V.1;omega),HR (by have:=hy.1;omega)]
   rfl
  |succ k ih=>
   intro j hj
   have hjx:j<x.length:=by have:=V.1;omega
   have hjy:j<y.length:=by have:=hy.1;omega
   have Y:=sV ti hsz hag (IT (r:=r) (m:=m) (i:=j) (by omega)) V w
   have X:=sV ti hsz hag (IT (r:=r) (m:=m) (i:=j) (by omega)) hy w
   have d:=he S _ _ _ _ h3 w (IT (r:=r) (m:=m) (i:=j) (by omega) S cs x V) (IT (r:=r) (m:=m) (i:=j) (by omega) S ds y hy)
   rw [List.range'_succ]
   unfold Op.eqItems
   simp only [uh,Y,X,d,vl]
   have ex:x.drop j=(x[j]?).getD default::x.drop (j+1):=by rw [sH hjx];exact B0 hjx
   have ey:y.drop j=(y[j]?).getD default::y.drop (j+1):=by rw [sH hjy];exact B0 hjy
   rw [ex,ey]
   by_cases hq:(x[j]?).getD default=(y[j]?).getD default
   ·simp only [hq,decide_true,sI,oj,lI]
    rw [ih (j+1) (by omega)]
    congr 1
    simp
   ·simp [hq]
 have:=key m 0 (by omega)
 simpa using this
section
variable{ty:TypeId}
def th{xs:List Operand}{sz' bytes' :Nat}{agg' :Bool}{z' :List Value}(D:E.P.underlying t=some (.array m T))(ti:TI E.P T sz bytes agg z)(hsz:r.sz=sz)(tj:TI E.P t sz' bytes' agg' z')(hz:z'.length=m*r.sz)(hm:m=ys.length)(V:kQ E.N G xs (ys.map (tD r))):cu E O G ⟨dst,.build t (zz 0 xs).toArray,ty,pos,after,g⟩ (tD (nQ r m) ys):=
 .of_pure fun a w S _ _ hF=>by
  obtain⟨zv,hzr,hzc⟩:=tj.zero w
  obtain⟨cs,hc,hfill⟩:=Fg ys (xs.map a.eval) 0 [] z' (V.tys hF) (by simp) (by rw [hz,hm])
  subst hsz
  have hparts:((zz 0 xs).toArray.map fun(i,x)=>(i,a.eval x)).toList=C4 0 (xs.map a.eval):=by simpa using Cv a.eval 0 xs
  rw [mh,mh]at hfill
  refine⟨.agg cs.toArray,?_,cs,rfl,hm.symm,hc⟩
  simp only [execOp,Instr.build,uh,hzr,vl,jt D,ti.sizeOf,hzc,hparts,hfill]
  simp
end
end Go.Proofs.YtdohlidddcgfjaaGreat

