/- bT of this claim: W14, W16, W17, W18, W19, W20, W22, W23, W24, W25, W26, W28, W30, W31, W32. -/
import Derived.Test.YtdohlidddcgfjaaGreatFdV1
import Derived.RangeFuncRecord
import Derived.RangeFuncLeaves
import Derived.Laws.StructEq
import Derived.Lib.ConvBytes
import Derived.Lib.AppendZeros
import Derived.Laws.MakeOwn
import Derived.MapKept
import Derived.Scope
import Derived.ChangeKeysEq
set_option linter.all false
namespace Go.Proofs.YtdohlidddcgfjaaGreat
open Go

variable{S:SH}{a:Act}{b:Nat}{e:TypeId}{α β:Type}{k:IntKind}{q:Rp β}{x:Operand}{y:α}
def cA{p:Rp α}:eV (cq p q) 0 p (fun x y=>(y,x.2)):=fun S cs x ds y h k=>by
 obtain⟨a,b,e,Y,X⟩:=h
 have hl:=p.len Y
 refine⟨ds,b,?_,k,X⟩
 rw [e,<-hl];simp
variable{off:Nat}{γ:Type}{ae:Rp γ}{u:Unit}
def ay{p:Rp α}{off' :Nat}{u:β->γ->β}(h:eV q off ae u)(ho:off' =p.sz+off):eV (cq p q) off' ae (fun x y=>(x.1,u x.2 y)):=fun S cs x ds y V hy=>by
 obtain⟨a,b,e,Y,X⟩:=V
 have hl:=p.len Y
 refine⟨a,b.take off++ds++b.drop (off+ae.sz),?_,Y,h S b x.2 ds y X hy⟩
 rw [e,ho,<-hl,List.take_length_add_append,show a.length+off+ae.sz=a.length+(off+ae.sz)from by omega,List.drop_length_add_append]
 simp
variable{f:FuncId}
def bH{p:Rp α}{q:Rp γ}{u:α->γ->α}{f:β->α}{set:β->γ->β}(h:eV p off q u)(hf: ∀x y,f (set x y)=u (f x) y):eV (mZ p f) off q set:=fun S cs x ds y V hy=>by
 show p.rc S _ (f (set x y))
 rw [hf]
 exact h S cs (f x) ds y V hy
def jk(P:Program)(T:TypeId):Option (List (Nat×Nat)):=
 match P.underlying T with
 |some (.struct fs)=>fs.toList.mapM fun f=>(P.info? f.type).map fun q=>(f.offset,q.size)
 |_=>none
variable{P:Program}{w:World}
def Ef{P:Program}: ∀(fs:List Field) (ps:List (Nat×Nat)) (w:World),fs.mapM (fun f=>(P.info? f.type).map fun q=>(f.offset,q.size))=some ps->
  (fs.mapM (fun f=>do pure (f.offset,<-sizeOf f.type):Field->Sem (Nat×Nat))).run P w= .ok ps w
 |[],ps,w,h=>by
  simp at h;subst h
  simp
 |f::fs,ps,w,h=>by
  simp only [List.mapM_cons]at h ⊢
  cases hq:P.info? f.type with
  |none=>simp [hq]at h
  |some q=>
   cases hr:fs.mapM (fun f=>(P.info? f.type).map fun q=>(f.offset,q.size))with
   |none=>simp [hq,hr]at h
   |some qs=>
    simp [hq,hr]at h
    subst h
    have ih:=Ef fs qs w hr
    simp [sizeOf,typeInfo,hq]at ih ⊢
    simp [ih]
variable{E:En}{G:mb}{O:List OE}{T:TypeId}{after:Array Edge}{agg:Bool}{bytes:Nat}{c:Code}{dst:Option Tmp}{g:Option (Nat×Bool)}{i:Nat}{l:Option Nat}{o:Oper}{pos:String}{r:Rp α}{rest:List Oper}{sz:Nat}{z:List Value}
section
variable{ty:TypeId}
def BP(E:En)(G:mb){α:Type}(r:Rp α)(ps:List (Nat×Nat)):α->List (Nat×Operand)->α->Prop
 |x,[],y=>x=y
 |x,(i,o)::rest,y=> ∃(β:Type) (q:Rp β) (set:α->β->α) (off:Nat) (v:β),ps[i]? =some (off,q.sz)/\eV r off q set/\Nat.ble (off+q.sz) r.sz=true/\aJ E.N G o (tD q v)/\BP E G r ps (set x v) rest y
def EU{α:Type}{r:Rp α}{ps:List (Nat×Nat)}{S:SH}{a:Act}(hF:bT E.N S a G): ∀(parts:List (Nat×Operand)) (x y:α) (cs:List Value),BP E G r ps x parts y->r.rc S cs x->
  ∃ds,r.rc S ds y/\Instr.fill (ps.toArray[·]?) cs.toArray (parts.map fun p=>(p.1,a.eval p.2))=some ds.toArray
 |[],x,y,cs,h,V=>by
  have e:x=y:=h
  subst e
  exact⟨cs,V,rfl⟩
 |(i,o)::rest,x,y,cs,⟨β,q,set,off,v,Y,X,d,h4,h5⟩,V=>by
  obtain⟨c,hv,hc⟩:=h4 S a hF
  have hl:=q.len hc
  have hlr:=r.len V
  have h3' :=rM d
  have hcells:(a.eval o).cells=c.toArray:=by rw [hv];exact u9 hc
  obtain⟨ds,h6,h7⟩:=EU hF rest _ y _ h5 (X S cs x c v V hc)
  refine⟨ds,h6,?_⟩
  have hps:ps.toArray[i]? =some (off,q.sz):=by simpa using Y
  have hs:(a.eval o).cells.size=q.sz:=by rw [hcells];simpa using hl
  have h8:=Ay (a.eval o) off (cs.take off) ((cs.drop off).take q.sz) (cs.drop (off+q.sz)) (by rw [hs];simp;omega) (by simp;omega)
  have e1:cs.take off++(cs.drop off).take q.sz++cs.drop (off+q.sz)=cs:=by
   rw [pD,<-sn,s6,s6]
  rw [e1]at h8
  simp only [DE,Instr.fill,hps]
  rw [aR (by simp [hs,hlr];omega),h8,hcells]
  simpa using h7
def ez{x:α}{parts:List (Nat×Operand)}{ps:List (Nat×Nat)}(ti:TI E.P T sz bytes agg z)(hp:jk E.P T=some ps)(hz: ∀S,r.rc S z x)(K:BP E G r ps x parts y)(ha:r.agg=true:=by rfl):
  cr E O G ⟨dst,.build T parts.toArray,ty,pos,after,g⟩ (tD r y):=
 .of_pure fun a w S _ _ hF=>by
  obtain⟨zv,hzr,hzc⟩:=ti.zero w
  obtain⟨ds,Y,X⟩:=EU hF parts x y z K (hz S)
  unfold jk at hp
  split at hp
  ·rename_i fs hu
   have hpl:=Ef fs.toList ps w hp
   have hpl2:(fs.mapM (fun f=>do pure (f.offset,<-sizeOf f.type):Field->Sem (Nat×Nat))).run E.P w= .ok ps.toArray w:=by
    have hfs:fs=fs.toList.toArray:=by simp
    generalize fs.toList=l at hfs hpl
    subst hfs
    rw [List.mapM_toArray,Sem.run_map,hpl]
    rfl
   refine⟨.agg ds.toArray,?_,ds,(su ha ds).symm,Y⟩
   simp only [execOp,Instr.build,tP,hzr,u3,jo hu,hpl2,hzc]
   have hm:(parts.toArray.map fun(i,x)=>(i,a.eval x)).toList=parts.map fun p=>(p.1,a.eval p.2):=by simp
   rw [hm,X]
   simp
  ·cases hp
end
variable{B:Nat->Prop}{N:Nat}{S0:SH}{U:TypeId}{fn:Func}{w0:World}
section
def Lk{k:Nat}{x:α}(hr:fn.results= #[.cell k T])(ti:TI P T sz bytes agg z)(hsz:r.sz=sz)(hag:r.agg=agg)(hk:cu G k=some (df r x)):
  AT ⟨P,⟨N,[]⟩,B,w0,S0,none⟩ (bodyPost P fn (KL ⟨P,⟨N,[]⟩,B,w0,S0,none⟩ (tD r x))) .ret O G:=fun a w S st=>by
 obtain⟨b,off,c,U,fr,Y,X,d⟩:=st.facts.at_ k _ hk
 obtain⟨c',h4,h5⟩:=st.sat.part X (r.len d)
 rw [<-h5]at d
 refine⟨st.facts.defers,r.val ((c'.toList.drop off).take r.sz),?_,_,S,rfl,st.ext,st.sat,_,rfl,d⟩
 have hl:=k9 ti h4 hsz hag d
 have h1' :a.tmps[k]?.getD undef=Value.pointer (some ⟨b,off,none⟩):=by simpa [Hv] using Y
 simp [results,hr,h1',asAddr,hl]
end

def nK(L:List Oper):Nat->Nat->Nat->Bool
 |0,_,_=>false
 |n+1,i,j=>match L[i]? with
  |some o=>o.after.toList.any fun e=>Region.binds .any e&&(Nat.beq e.on j||nK L n e.on j)
  |none=>false
def wu(L:List Oper)(m:Nat):Bool:=(List.range m).all fun j=>nK L L.length m j
def y5(L:List Oper)(n k:Nat):Bool:=(List.range k).all fun m=>wu L (n+m)&&(match L[n+m]? with|some o=>eE (n+m) o&&o.guard.isNone|none=>false)
variable{L:List Oper}{done:Array Bool}{hi j:Int}{n:Nat}
def gA{L:List Oper}{done:Array Bool}(down: ∀j o,L[j]? =some o->done.getD j false=true-> ∀e∈o.after,Region.binds .any e=true->done.getD e.on false=true):
  ∀(n i j:Nat),(∀o,L[i]? =some o-> ∀e∈o.after,Region.binds .any e=true->done.getD e.on false=true)->nK L n i j=true->done.getD j false=true
 |0,_,_,_,h=>by cases h
 |n+1,i,j,hi,h=>by
  unfold nK at h
  cases ho:L[i]? with
  |none=>rw [ho]at h;cases h
  |some o=>
   rw [ho]at h
   obtain⟨e,he0,K⟩:=DC.1 h
   have he:e∈o.after:=by simpa using he0
   rw [lq,yS]at K
   have hd:=hi o ho e he K.1
   rcases K.2 with Y|Y
   ·rw [<-pj Y];exact hd
   ·exact gA down n e.on j (fun p hp=>down e.on p hp hd) Y
variable{S' :SH}{h3:Nat}{t:TypeId}{ts:List Ty}{w' :World}
def DJ.stepT{l:List Oper}(h:DJ E O G l ts done a w S){t:Ty}{v:Value}(hi:l[i]? =some o)(hd:o.dst=some h3)(hdN:h3<E.N.n)(hs2: ∀j p,l[j]? =some p->done.getD j false=true->p.dst=some h3->i=j)(hwait: ∀e∈o.after,Region.binds .any e=true->done.getD e.on false=true)(D:ts[i]? =some t)(hun:done.getD i true=false)(hext:kh tY w S w' S')(hsat:mt w' S')(hv:t.p S' v):DJ E O G l ts (done.setIfInBounds i true) (a.put o.dst v) w' S' :=by
 have hda:h3<a.tmps.size:=by rw [h.size];exact hdN
 have hlt:i<done.size:=by rw [h.dsz];exact(sf.1 hi).1
 have hset: ∀j,(done.setIfInBounds i true).getD j false=true->j=i\/done.getD j false=true:=fun j hj=>by
  by_cases hij:i=j
  ·exact .inl hij.symm
  ·rw [wG false hij]at hj;exact .inr hj
 have hseti:(done.setIfInBounds i true).getD i false=true:=by simp [hlt]
 have hun' :done.getD i false=false:=by simp [hlt]at hun ⊢;exact hun
 refine⟨h.ext.step0 hext,hsat,h.own.ext0 hext,?_,?_,by simp [h.dsz],fun j p hj hdone e he K=>?_,fun k u hk hno=>?_,fun j p d' u hj hdone hd' hu=>?_⟩
 ·rw [hd];simp [Act.put,h.size]
 ·rw [hd];exact h.defers
 ·rcases hset j hdone with rfl|hj'
  ·rw [hi]at hj
   have:o=p:=by simpa using hj
   subst this
   exact yR (hwait e he K)
  ·exact yR (h.down j p hj hj' e he K)
 ·have hne:h3≠k:=fun e=>hno i o hi hseti (by rw [hd,e])
  rw [hd,uh hda,aR hne]
  exact u.mono hext.keep (h.old k u hk fun j p hj hdone=>hno j p hj (yR hdone))
 ·rw [hd,uh hda]
  rcases hset j hdone with rfl|hj'
  ·rw [hi]at hj
   have:o=p:=by simpa using hj
   subst this
   rw [hd]at hd'
   have:h3=d' :=by simpa using hd'
   subst this
   rw [bh rfl]
   rw [D]at hu
   have:t=u:=by simpa using hu
   subst this
   exact hv
  ·have hne:h3≠d' :=fun e=>by
    subst e
    have:=hs2 j p hj hj' hd'
    subst this
    rw [hj']at hun';cases hun'
   rw [aR hne]
   exact u.mono hext.keep (h.new j p d' u hj hj' hd' hu)
def oZ(h:i<done.size):done.getD i true=done.getD i false:=by simp [h]
def uc(h:lR done=0)(hi:i<done.size):done.getD i false=true:=by
 unfold lR at h
 rw [List.countP_eq_zero]at h
 have X:done[i]∈done.toList:=by simp
 have:=h _ X
 rw [<-oZ hi]
 simpa [hi] using this
variable{bx:Exit->Act->World->Prop}{m:Nat}{xs:List α}
def zw{r:Option Nat}(hc: ∀m o,n<=m->L[m]? =some o->wu L m=true)(hedge: ∀m o,L[m]? =some o->eE m o=true):
  ∀(rest:List Oper) (m:Nat) (done:Array Bool) (fuel:Nat) (a:Act) (w:World),n<=m->L.drop m=rest->done.size=L.length->(∀j,j<L.length->(done.getD j false=true↔j<m))->lR done=fuel->
   wpListIn (fw r) 0 P L.toArray bx rest a w->wpAnyIn (fw r) 0 P .any L.toArray bx fuel done a w:=by
 intro rest
 induction rest with
 |nil=>
  intro m done fuel a w hnm hdrop hsz hdone hu h
  have hlen:L.length<=m:=Jd.1 hdrop
  have hr:Region.ready .any L.toArray done=[]:=by
   cases hr:Region.ready .any L.toArray done with
   |nil=>rfl
   |cons i r=>
    have hm:i∈Region.ready .any L.toArray done:=by rw [hr];exact nA ..
    obtain⟨hun,o,ho,_⟩:=s8.1 hm
    have hi:i<L.length:=by simpa using (Hu.1 ho).1
    have:=(hdone i hi).2 (by omega)
    rw [oZ (by omega)]at hun
    rw [hun]at this;cases this
  cases fuel with
  |zero=>exact⟨hr,h⟩
  |succ f=>exact⟨fun _=>h,fun i hi=>by rw [hr]at hi;cases hi⟩
 |cons o rest ih=>
  intro m done fuel a w hnm hdrop hsz hdone hu h
  have hm:m<L.length:=by
   rcases nS m L.length with h' |h'
   ·exact h'
   ·rw [Jd.2 h']at hdrop;cases hdrop
  have hLm:L[m]? =some o:=by
   have:=vH (xs:=L) (i:=m) (j:=0)
   rw [hdrop]at this
   simpa using this.symm
  have hmu:done.getD m true=false:=by
   have hnot: ¬(done.getD m false=true):=fun X=>by have:=(hdone m hm).1 X;omega
   rw [oZ (by omega)]
   exact Ah _▸hnot
  have honly: ∀i∈Region.ready .any L.toArray done,i=m:=by
   intro i hi
   obtain⟨hun,p,hp,hwait⟩:=s8.1 hi
   have hp' :L[i]? =some p:=by simpa using hp
   have hil:i<L.length:=(sf.1 hp').1
   have hid: ¬i<m:=fun hlt=>by
    have X:=(hdone i hil).2 hlt
    rw [oZ (by omega)]at hun
    rw [hun]at X;cases X
   rcases nS m i with hlt|hge
   ·exfalso
    have hcov:=hc i p (by omega) hp'
    unfold wu at hcov
    have hre:=kQ.1 hcov m (by simpa using hlt)
    have:done.getD m false=true:=by
     refine gA (L:=L) (done:=done) (fun j q hj hjd e he K=>?_) _ i m (fun q hq e he K=>?_) hre
     ·have hjl:j<L.length:=(sf.1 hj).1
      have hjm:=(hdone j hjl).1 hjd
      have:=hedge j q hj
      unfold eE at this
      have:=kQ.1 this e (by simpa using he)
      simp only [K,sm,uH,uG]at this
      exact(hdone e.on (by omega)).2 (by omega)
     ·have:q=p:=by rw [hp']at hq;simpa using hq.symm
      subst this
      exact hwait e he K
    have:=(hdone m hm).1 this
    omega
   ·omega
  have hready:m∈Region.ready .any L.toArray done:=by
   rw [s8]
   refine⟨hmu,o,by simpa using hLm,fun e he K=>?_⟩
   have:=hedge m o hLm
   unfold eE at this
   have:=kQ.1 this e (by simpa using he)
   simp only [K,sm,uH,uG]at this
   exact(hdone e.on (by omega)).2 this
  cases fuel with
  |zero=>
   have:=uc hu (i:=m) (by omega)
   have:=(hdone m hm).1 this
   omega
  |succ fuel=>
   refine⟨fun hr=>(by rw [hr]at hready;cases hready),fun i hi=>?_⟩
   have:=honly i hi
   subst this
   have hnext:=fun a w=>ih (i+1) (done.setIfInBounds i true) fuel a w (by omega) (by rw [<-sn,hdrop];rfl) (by simpa using hsz) (fun j hj=>by
    by_cases hij:i=j
    ·subst hij;have:i<done.size:=by omega
     simp [this]
    ·rw [wG false hij,hdone j hj];omega) (by have:=q9 hmu;omega)
   unfold wpOpIn
   have hLm' :L.toArray[i]? =some o:=by simpa using hLm
   rw [hLm']
   show if _ then _ else _
   unfold wpListIn at h
   by_cases hw:Region.wanted o (yielded L.toArray a.tmps)=true
   ·rw [bh hw]at h ⊢;exact Oper.wpIn_mono (fun a w hk=>hnext a w hk) h
   ·rw [aR hw]at h ⊢;exact⟨h.1,hnext _ _ h.2⟩
def Js{l t:List Oper}(hsl:vL E.N.n [] l=true)(hlen:ts.length=l.length)(hd:DR E O G (l++t) ts 0 l)(D:y5 (l++t) l.length t.length=true)(hQ: ∀a w S,St E O (Md l ts G) a w S->wpListIn (fw E.r) 0 E.P (l++t).toArray bx t a w):
  ∀(fuel:Nat) (done:Array Bool) (a:Act) (w:World) (S:SH),lR done=fuel->(∀j,l.length<=j->done.getD j false=false)->DJ E O G (l++t) ts done a w S->wpAnyIn (fw E.r) 0 E.P .any (l++t).toArray bx fuel done a w:=by
 have hL1: ∀i o,i<l.length->(l++t)[i]? =some o->l[i]? =some o:=fun i o hi h=>by rwa [Al hi]at h
 have hL2: ∀i o,l[i]? =some o->(l++t)[i]? =some o:=fun i o h=>by rw [Al (sf.1 h).1];exact h
 have htail: ∀m o,l.length<=m->(l++t)[m]? =some o->wu (l++t) m=true/\eE m o=true:=fun m o hm ho=>by
  have hml:m<(l++t).length:=(sf.1 ho).1
  rw [kw]at hml
  unfold y5 at D
  have:=kQ.1 D (m-l.length) (by simp;omega)
  rw [show l.length+(m-l.length)=m from by omega,ho]at this
  simp only [lq]at this
  exact⟨this.1,this.2.1⟩
 have hedge: ∀i o,(l++t)[i]? =some o->eE i o=true:=fun i o hi=>by
  rcases nS i l.length with h|h
  ·obtain⟨_,_,_,_,_,h,_⟩:=DR.get l 0 hd i o (hL1 i o h hi)
   simpa using h
  ·exact(htail i o h hi).2
 obtain⟨hs1,hs2⟩:=xk l [] hsl
 have fin: ∀fuel done a w S,lR done=fuel->(∀j,l.length<=j->done.getD j false=false)->DJ E O G (l++t) ts done a w S->(∀i,i<l.length->done.getD i false=true)->wpAnyIn (fw E.r) 0 E.P .any (l++t).toArray bx fuel done a w:=by
  intro fuel done a w S hu hfree h hall
  refine zw (n:=l.length) (fun m o hm ho=>(htail m o hm ho).1) hedge t l.length done fuel a w (eg _) (by simp) h.dsz (fun j hj=>⟨fun hjd=>?_,fun hlt=>hall j hlt⟩) hu
   (hQ a w S ⟨h.ext,h.sat,h.own,h.size,h.defers,fun j u hj=>?_⟩)
  ·rcases nS j l.length with h' |h'
   ·exact h'
   ·rw [hfree j h']at hjd;cases hjd
  ·rcases GP l ts j u (fun o ho e=>by obtain⟨h3,hd,_⟩:=hs1 o ho;rw [hd]at e;cases e) hlen hj with⟨i,o,Y,X,d⟩|⟨Y,X⟩
   ·exact h.new i o j u (hL2 i o Y) (hall i (sf.1 Y).1) X d
   ·refine h.old j u Y fun i o ho hdn=>?_
    rcases nS i l.length with h' |h'
    ·exact X o (s5 (hL1 i o h' ho))
    ·rw [hfree i h']at hdn;cases hdn
 have lower: ∀done a w S i,(∀j,l.length<=j->done.getD j false=false)->DJ E O G (l++t) ts done a w S->i∈Region.ready .any (l++t).toArray done->l.length<=i-> ∀j,j<l.length->done.getD j false=true:=by
  intro done a w S i hfree h hi hge j hj
  obtain⟨hun,p,hp,hwait⟩:=s8.1 hi
  have hp' :(l++t)[i]? =some p:=by simpa using hp
  have hcov:=(htail i p hge hp').1
  unfold wu at hcov
  have hre:=kQ.1 hcov j (by simp;omega)
  exact gA h.down _ i j (fun q hq e he K=>by
   have:q=p:=by rw [hp']at hq;simpa using hq.symm
   subst this
   exact hwait e he K) hre
 intro fuel
 induction fuel with
 |zero=>
  intro done a w S hu hfree h
  exact fin 0 done a w S hu hfree h fun i hi=>uc hu (by rw [h.dsz,kw];omega)
 |succ fuel ih=>
  intro done a w S hu hfree h
  by_cases hall: ∀i,i<l.length->done.getD i false=true
  ·exact fin _ done a w S hu hfree h hall
  have hready0: ∀m i,i<m->i<l.length->Region.ready .any (l++t).toArray done=[]->done.getD i false=true:=by
   intro m
   induction m with
   |zero=>intro i h;omega
   |succ m ihm=>
    intro i him hil hr
    have his:i<done.size:=by rw [h.dsz,kw];omega
    by_cases hdn:done.getD i true=true
    ·rw [<-oZ his];exact hdn
    ·exfalso
     obtain⟨o,ho⟩: ∃o,(l++t)[i]? =some o:=⟨l[i],hL2 i _ (tM hil)⟩
     have hmem:i∈Region.ready .any (l++t).toArray done:=by
      rw [s8]
      refine⟨by simpa using hdn,o,by simpa using ho,fun e he K=>?_⟩
      have:=hedge i o ho
      unfold eE at this
      have:=kQ.1 this e (by simpa using he)
      simp only [K,sm,uH,uG]at this
      exact ihm e.on (by omega) (by omega) hr
     rw [hr]at hmem;cases hmem
  refine⟨fun hr=>absurd (fun i hi=>hready0 (i+1) i (by omega) hi hr) hall,fun i hi=>?_⟩
  have hil:i<l.length:=by
   rcases nS i l.length with h' |h'
   ·exact h'
   ·exact absurd (lower done a w S i hfree h hi h') hall
  obtain⟨hun,o,ho,hwait⟩:=s8.1 hi
  have ho' :(l++t)[i]? =some o:=by simpa using ho
  have hol:=hL1 i o hil ho'
  obtain⟨needs,u,Y,X,d,_,h5⟩:=DR.get l 0 hd i o hol
  rw [uX]at Y d
  have hF:=h.need ho' hun hwait X d
  have h6:=h5 a w S h.sat h.own hF
  have hu' :lR (done.setIfInBounds i true)=fuel:=by have:=q9 hun;omega
  obtain⟨h3,hdd,hdN,_⟩:=hs1 o (s5 hol)
  have huq: ∀j p,(l++t)[j]? =some p->done.getD j false=true->p.dst=some h3->i=j:=fun j p hj hjd hpd=>by
   rcases nS j l.length with h' |h'
   ·exact hs2 i j o p hol (hL1 j p h' hj) (by rw [hdd,hpd])
   ·rw [hfree j h']at hjd;cases hjd
  have hfree' : ∀j,l.length<=j->(done.setIfInBounds i true).getD j false=false:=fun j hj=>by
   rw [wG false (by omega)];exact hfree j hj
  unfold wpOpIn
  rw [ho]
  show if _ then _ else _
  by_cases hw:Region.wanted o (yielded (l++t).toArray a.tmps)=true
  ·rw [bh hw]at h6 ⊢
   refine lE (fun a' w' ⟨v,S',ha,he,hs,hv⟩=>?_) h6
   subst ha
   exact ih _ _ _ S' hu' hfree' (h.stepT ho' hdd hdN huq hwait Y hun he hs hv)
  ·rw [aR hw]at h6 ⊢
   exact⟨fun _ _=>trivial,ih _ _ _ S hu' hfree' (h.stepT ho' hdd hdN huq hwait Y hun (jn _ _ _) h.sat h6)⟩
def Tw{id:Nat}{l t:List Oper}(hL:L=l++t)(hm:E.P.follows .mixedOrders=true)(hsl:vL E.N.n [] l=true)(hlen:ts.length=l.length)(D:y5 L l.length t.length=true)(hd:DR E O G L ts 0 l)(k:RG E L.toArray bx t O (Md l ts G)):CG E bx (.region id L.toArray true) O G:=fun a w S st=>by
 subst hL
 refine wpIn_region_any hm ?_
 obtain⟨he,hs⟩:=yl (w:=w) st.sat
 refine Js hsl hlen hd D (fun a w S st=>k a w S st) _ _ _ _ S ?_ (fun j _=>?_)
  ⟨st.ext.step0 he,hs,st.own.ext0 he,st.facts.size,st.facts.defers,by simp,fun j o hj hdone=>?_,fun k t hk _=>st.facts.at_ k t hk,fun j o h3 t hj hdone=>?_⟩
 ·unfold lR;rw [Nm,Nk];simp
 ·simp [zt];split<;>rfl
 ·simp [zt]at hdone
  split at hdone<;>simp at hdone
 ·simp [zt]at hdone
  split at hdone<;>simp at hdone

abbrev It(α:Type):=(σ:Type)->(α->σ->Option (Bool×σ))->σ->Option σ

variable{base:Nat}
def er.weak: ∀{O:List OE},er base B w S O->er 0 tY w S O
 |[],_=>trivial
 |_::_,⟨Y,X,d⟩=>⟨⟨Y.1,fun _ _=> .inl (pq _)⟩,X,er.weak d⟩
def yO: ∀{O:List OE},er 0 tY w S O->(∀f∈O,∀k,f.fp k->base<=k\/B k)->er base B w S O
 |[],_,_=>trivial
 |_::_,⟨Y,X,d⟩,h=>⟨⟨Y.1,h _ (nA ..)⟩,X,yO d fun f hf=>h f (pp _ hf)⟩
section
variable{ty:TypeId}
end
def Og:List OE->List OE->Prop
 |[],_=>True
 |f::O,g::O' =>(∀k,f.fp k->g.fp k)/\Og O O'
 |_::_,[]=>False
def Og.mem: ∀{O O' :List OE},Og O O' -> ∀k,(∃f∈O,f.fp k)-> ∃f∈O',f.fp k
 |f::O,g::O',⟨Y,X⟩,k,⟨q,hq,hk⟩=>by
  rcases jf.1 hq with e|e
  ·subst e;exact⟨g,nA ..,Y k hk⟩
  ·obtain⟨q',d,h4⟩:=Og.mem X k ⟨q,e,hk⟩
   exact⟨q',pp _ d,h4⟩

variable{O1:List OE}{ι:Type}{O2:ι->List OE}
def qn: ∀{O1 O2:List OE},er base B w S (O1++O2)->er base B w S O1/\er base B w S O2/\ ∀e∈O1,∀f∈O2,e.apart f
 |[],_,h=>⟨trivial,h,fun _ h=>(by cases h)⟩
 |e::O1,O2,⟨Y,X,d⟩=>by
  obtain⟨k1,k2,k3⟩:=qn d
  refine⟨⟨Y,fun f hf=>X f (DK _ hf),k1⟩,k2,fun g H f hf=>?_⟩
  rcases jf.1 H with rfl|H
  ·exact X f (List.mem_append_right _ hf)
  ·exact k3 g H f hf
section
section
variable{ty:TypeId}
end
end


section
variable{R:Ending->World->Prop}{ds:List Deferred}
end
def rT(t:Ty):Rp Unit where
 sz:=1
 agg:=false
 rc:=fun S cs _=> ∃v,cs=[v]/\v.oneCell' =true/\t.p S v
 mono:=fun h ⟨v,e,k,l⟩=>⟨v,e,k,t.mono h l⟩
 len:=fun⟨_,e,_⟩=>by rw [e];rfl
 one:=fun⟨v,e,k,_⟩ c hc=>by rw [e]at hc;simp at hc;subst hc;exact k
 sc:=fun _=>rfl
def tRT{t:Ty}{v:Value}:(tD (rT t) u).p S v↔v.oneCell' =true/\t.p S v:=by
 constructor
 ·rintro⟨cs,rfl,w,rfl,Y,X⟩;exact⟨Y,X⟩
 ·rintro⟨Y,X⟩;exact⟨[v],rfl,v,rfl,Y,X⟩
variable{cap:Nat}{get:α->β}{k' :IntKind}{lo:Int}{ys:List α}
section
variable{ty:TypeId}
def cr.imp{t u:Ty}(h:cr E O G o t)(k: ∀S v,t.p S v->u.p S v):cr E O G o u:=fun a w S hs ho hf=>
 oV (fun _ _ ⟨v,S',Y,X,d,h4⟩=>⟨v,S',Y,X,d,k S' v h4⟩) (h a w S hs ho hf)
def Ka{t:Ty}{p:Operand}(ti:TI E.P U 1 bytes false z)(hp:aJ E.N G p (df (rT t) ())):cr E O G ⟨dst,.load U p,ty,pos,after,g⟩ t:=
 (kE (r:=rT t) (x:=()) ti rfl rfl hp).imp fun _ _ h=>(tRT.1 h).2

def Ia:rV.rc S [.slice none 0 0] (au none 0 0):=⟨rfl,rfl⟩
def Kp{N:Fr}(h:aJ N G x (Z (au l cap n))):aJ N G x (tD rV (au l cap n)):=fun S a hf=>yn.2 ⟨h S a hf,by cases l<;>rfl⟩
def pz{p:Operand}(ti:TI E.P U 1 bytes false z)(hm:Q rV T b (au l cap n)∈O)(hp:aJ E.N G p (Z (M b 0))):
  cr E O G ⟨dst,.load U p,ty,pos,after,g⟩ (Z (au l cap n)):=(aE (q:=rV) (get:=fun x=>x) ti rfl rfl bp hm hp).imp fun _ _ h=>(yn.1 h).1

def dV{α:Type}(xs:List α)(lo hi:Int):Option (List α):=if 0<=lo/\lo<=hi/\hi<=(xs.length:Int)then some ((xs.take hi.toNat).drop lo.toNat)else none
def fR(h:dV xs lo hi=some ys): ∃l m:Nat,lo=l/\hi=m/\l<=m/\m<=xs.length/\ys=(xs.take m).drop l:=by
 unfold dV at h
 split at h
 ·rename_i hc
  exact⟨lo.toNat,hi.toNat,by omega,by omega,by omega,by omega,by simpa using h.symm⟩
 ·cases h
def vM{a:Option Addr}{l:Nat}(h:Gt r S a xs)(hl:l<=m)(hm:m<=xs.length)(hc:xs.length<=cap):
  Gt r S (if cap=l then a else a.map (·.add (l*r.sz))) ((xs.take m).drop l):=by
 by_cases hlm:l=m
 ·left;subst hlm;simp
 right
 rcases h with h|⟨b,off,c,T,fr,e1,e2,e3⟩
 ·subst h;simp at hm;omega
 subst e1
 have hne: ¬(cap=l):=by omega
 refine⟨b,off+l*r.sz,c,T,fr,?_,e2,?_⟩
 ·rw [aR hne];simp [Addr.add]
 have hlen:((xs.take m).drop l).length=m-l:=by simp;omega
 have e4:xs=(xs.take m).take l++((xs.take m).drop l++xs.drop m):=by
  rw [<-pD,s6,s6]
 have Y:((xs.take m).take l).length=l:=by simp;omega
 rw [e4]at e3
 have X:=(qb e3).2
 have d:=(qb X).1
 rw [Y]at d
 rw [hlen]at d ⊢
 rw [<-e4]at d
 rw [yZ,Ae,sn]at d
 have hmin:min ((m-l)*r.sz) (xs.length*r.sz-l*r.sz)=(m-l)*r.sz:=by
  rw [<-Nat.sub_mul];exact xa (Ak _ (by omega))
 rwa [hmin]at d
def jM{n:Int}{y:Nat}{code:BoundsCode}(h0:0<=n)(Y:n<=y):(Instr.sliceBound (.int k n) y code).run P w= .ok n.toNat w:=by
 simp [Instr.sliceBound,asIntOf,h0,Y]
def Mi{hi:Operand}(D:E.P.underlying t=some (.slice T))(ti:TI E.P T sz bytes agg z)(hsz:r.sz=sz)(V:aJ E.N G x (tD (fW r) xs))(hhi:aJ E.N G hi (tD (rI k') j))(h:dV xs 0 j=some ys):cr E O G ⟨dst,.slice t x none (some hi) none,ty,pos,after,g⟩ (tD (fW r) ys):=
 .of_pure fun a w S _ _ hf=>by
  subst hsz
  obtain⟨ad,cap,Y,X,d,h4⟩:=jX.1 (V S a hf)
  have h6:=dK.1 (hhi S a hf)
  obtain⟨l,m,hl,rfl,h7,h8,rfl⟩:=fR h
  have hl0:l=0:=by omega
  subst hl0
  have hlen:((xs.take m).drop 0).length=m-0:=by simp;omega
  refine⟨.slice (if cap=0 then ad else ad.map (·.add (0*r.sz))) (m-0) (cap-0),?_,jX.2 ⟨_,cap-0,by rw [hlen],by omega,by omega,vM h4 h7 h8 X⟩⟩
  simp [execOp,Instr.sliceAt,Y,h6,Instr.slice,jo D,Instr.sliceBounds,jM (k:=k') (n:=(m:Int)) (y:=cap) (by omega) (by omega),ti.sizeOf]
def Mh{lo:Operand}{i:Int}(D:E.P.underlying t=some (.slice T))(ti:TI E.P T sz bytes agg z)(hsz:r.sz=sz)(V:aJ E.N G x (tD (fW r) xs))(hlo:aJ E.N G lo (tD (rI k) i))(h:dV xs i (xs.length:Int)=some ys):cr E O G ⟨dst,.slice t x (some lo) none none,ty,pos,after,g⟩ (tD (fW r) ys):=
 .of_pure fun a w S _ _ hf=>by
  subst hsz
  obtain⟨ad,cap,Y,X,d,h4⟩:=jX.1 (V S a hf)
  have h5:=dK.1 (hlo S a hf)
  obtain⟨l,m,rfl,hm,h7,h8,rfl⟩:=fR h
  have hm' :m=xs.length:=by omega
  subst hm'
  have hlen:((xs.take xs.length).drop l).length=xs.length-l:=by simp
  refine⟨.slice (if cap=l then ad else ad.map (·.add (l*r.sz))) (xs.length-l) (cap-l),?_,jX.2 ⟨_,cap-l,by rw [hlen],by omega,by omega,vM h4 h7 h8 X⟩⟩
  simp [execOp,Instr.sliceAt,Y,h5,Instr.slice,jo D,Instr.sliceBounds,jM (k:=k) (n:=(l:Int)) (y:=xs.length) (by omega) (by omega),ti.sizeOf]
end
def se{id:Nat}(m:Nat)(hm:E.P.follows .mixedOrders=true)(hsl:vL E.N.n [] (L.take m)=true)(hlen:ts.length=(L.take m).length)(D:y5 L (L.take m).length (L.drop m).length=true)(hd:DR E O G L ts 0 (L.take m))(k:RG E L.toArray bx (L.drop m) O (Md (L.take m) ts G)):CG E bx (.region id L.toArray true) O G:=Tw (s6 m L).symm hm hsl hlen D hd k

def lu(P:Program){α:Type} [DecidableEq α](t:TypeId)(r:Rp α)(n:Nat):Prop:=
 ∀(S:SH) (cs ds:List Value) (x y:α) (h3:Nat) (w:World),r.rc S cs x->r.rc S ds y->(Op.equalIn (h3+n) t (r.val cs) (r.val ds)).run P w= .ok (decide (x=y)) w
def rK(h:P.underlying t=some (.int k')):lu P t (rI k) (n+1):=fun S cs ds x y h3 w V hy=>by
 have Y:cs=[.int k x]:=V
 have X:ds=[.int k y]:=hy
 subst Y X
 have:(Op.equalIn (h3+n+1) t (.int k x) (.int k y)).run P w= .ok (x==y) w:=by simp [Op.equalIn,jo h]
 have e:(x==y)=decide (x=y):=by by_cases h:x=y<;>simp [h]
 rw [e]at this
 exact this
def S2(h:P.underlying t=some .bool):lu P t rB (n+1):=fun S cs ds x y h3 w V hy=>by
 have Y:cs=[.bool x]:=V
 have X:ds=[.bool y]:=hy
 subst Y X
 have:=run_equalIn_bool' (P:=P) w (h3+n) t x y h
 simp only [Rp.val,rB,List.headD_cons,nV,lD]
 rw [show h3+(n+1)=h3+n+1 from rfl,this]
 cases x<;>cases y<;>rfl
def Vt(h:P.underlying t=some .string):lu P t rS (n+1):=fun S cs ds x y h3 w V hy=>by
 have Y:cs=[.string ⟨x.toArray⟩]:=V
 have X:ds=[.string ⟨y.toArray⟩]:=hy
 subst Y X
 have:=run_equalIn_string (P:=P) w (h3+n) t ⟨x.toArray⟩ ⟨y.toArray⟩ h
 simp only [Rp.val,rS,List.headD_cons,nV,lD]
 rw [show h3+(n+1)=h3+n+1 from rfl,this]
 simp only [ByteArray.toList_eq]
 by_cases e:x=y<;>simp [e]
abbrev Fd:=TypeId×Nat×Bool
def MB(f:Field):Fd:=(f.type,f.offset,f.name== "_")
def Qg(h3:Nat)(xs ys:Array Value):List Fd->Sem Bool
 |[]=>pure true
 |f::fs=>
  if f.2.2=false then do
   let a<-part f.1 xs f.2.1
   let b<-part f.1 ys f.2.1
   let r<-Op.equalIn h3 f.1 a b
   if(!r)=true then pure false else Qg h3 xs ys fs
  else Qg h3 xs ys fs
def KK(h3:Nat)(xs ys:Array Value): ∀fs:List Field,Op.eqFields h3 xs ys fs=Qg h3 xs ys (fs.map MB)
 |[]=>rfl
 |f::fs=>by
  unfold Op.eqFields Qg
  rw [KK h3 xs ys fs]
  by_cases h:f.name= "_"
  ·have e:((MB f).2.2=false)=False:=by simp [MB,h]
   simp only [DE,e,lD]
   rw [aR (by simpa using h)]
  ·have e:((MB f).2.2=false)=True:=by simp [MB,h]
   simp only [DE,e,jL]
   rw [bh (by simpa using h)]
   rfl
def Hl(P:Program){α:Type}(r:Rp α)(n:Nat)(fs:List Fd)(c:α->α->Bool):Prop:=
 ∀(S:SH) (cs ds:List Value) (x y:α) (h3:Nat) (w:World),r.rc S cs x->r.rc S ds y->(Qg (h3+n) cs.toArray ds.toArray fs).run P w= .ok (c x y) w
def Hl.nil:Hl P r n [] (fun _ _=>true):=fun _ _ _ _ _ _ _ _ _=>rfl
def sE(ti:TI P t sz bytes agg z)(hsz:q.sz=sz)(hag:q.agg=agg)(hf:lC r off q get){cs:List Value}{x:α}(V:r.rc S cs x)(w:World):
  (part t cs.toArray off).run P w= .ok (q.val ((cs.drop off).take q.sz)) w:=by
 have h:=hf S cs x V
 have hl:=q.len h
 subst hsz hag
 unfold part
 by_cases ha:q.agg=true
 ·have e1:=ti.isAgg w
  simp only [tP,e1,ha,u3,jL,ti.sizeOf,Sem.run_pure]
  unfold Rp.val
  rw [bh ha]
  congr 2
  apply Array.ext'
  simp
 ·rw [Ah]at ha
  have e1:=ti.isAgg w
  have hs1:=q.sc ha
  simp only [tP,e1,ha,u3,nV,lD]
  rw [hs1]at hl ⊢
  obtain⟨v,hv⟩:=List.length_eq_one_iff.1 hl
  have hc:cs[off]? =some v:=by
   have:((cs.drop off).take 1)[0]? =some v:=by rw [hv];rfl
   rw [yU (by omega),vH]at this
   simpa using this
  unfold Rp.val
  rw [hv,ha]
  simp [hc]
def Hl.cons [DecidableEq β]{t:Nat}{fs:List Fd}{c:α->α->Bool}(ti:TI P t sz bytes agg z)(hsz:q.sz=sz)(hag:q.agg=agg)(hf:lC r off q get)(he:lu P t q n)(hr:Hl P r n fs c):
  Hl P r n ((t,off,false)::fs) (fun x y=>decide (get x=get y)&&c x y):=fun S cs ds x y h3 w V hy=>by
 have Y:=sE ti hsz hag hf V w
 have X:=sE ti hsz hag hf hy w
 have d:=he S _ _ _ _ h3 w (hf S cs x V) (hf S ds y hy)
 unfold Qg
 simp only [jL,tP,Y,X,d,u3]
 by_cases e:get x=get y
 ·simp only [e,decide_true,sm,nV,lD,nC]
  exact hr S cs ds x y h3 w V hy
 ·simp [e]
def z2 [DecidableEq α]{t:Nat}{fs:List Fd}{c:α->α->Bool}(D:(P.underlying t).map (fun h3=>match h3 with| .struct l=>(true,l.toList.map MB)|_=>(false,[]))=some (true,fs))(hp:P.stoodInHeld t=false)(ha:r.agg=true)(hr:Hl P r n fs c)(hc: ∀x y,c x y=decide (x=y)):lu P t r (n+1):=fun S cs ds x y h3 w V hy=>by
 obtain⟨l,Y,X⟩: ∃l,P.underlying t=some (.struct l)/\l.toList.map MB=fs:=by
  cases hu:P.underlying t with
  |none=>rw [hu]at D;cases D
  |some h3=>
   rw [hu]at D
   cases h3<;>simp at D
   exact⟨_,rfl,D⟩
 have hfo:P.fieldsOf t=l:=by unfold Program.fieldsOf;rw [Y]
 have:=run_equalIn_struct (P:=P) w (h3+n) t cs.toArray ds.toArray (by rw [hfo];exact Y) hp
 rw [su ha,su ha,show h3+(n+1)=h3+n+1 from rfl,this,hfo,KK,X,hr S cs ds x y h3 w V hy,hc]
def kq [DecidableEq α](h:lu P t r n)(m:Nat):lu P t r (m+n):=fun S cs ds x y h3 w V hy=>by
 have:=h S cs ds x y (h3+m) w V hy
 rwa [Nat.add_assoc]at this
def Lm.of [DecidableEq α](H:P.eqGuardType P.depth t=false)(h:lu P t r 20):Lm P t r:=⟨H,fun S cs ds x y h3 w V hy=>h S cs ds x y h3 w V hy⟩

def S8{l:List α}{e:α}(h:xs.drop i=e::l):decide ((i:Int)<(xs.length:Int))=true:=by
 have:i<xs.length:=by
  rcases nS i xs.length with h' |h'
  ·exact h'
  ·rw [Fz h']at h;cases h
 simp;omega
def Wk(h:xs.drop i=[]):decide ((i:Int)<(xs.length:Int))=false:=by
 have:=Jd.1 h
 simp;omega
def dQ{l:List α}{e:α}(h:xs.drop i=e::l):xs.drop (i+1)=l:=by
 rw [<-sn,h];rfl
def eF{l:List α}{e:α}(h:xs.drop i=e::l):gR xs (i:Int)=some e:=by
 rw [eU]
 have:=vH (xs:=xs) (i:=i) (j:=0)
 rw [h]at this
 simpa using this.symm
def Wj{l:List α}{e:α}(h:xs.drop i=e::l)(hN:xs.length<=maxLen):i<9223372036854775807:=by
 have:=of_decide_eq_true (S8 h)
 simp only [maxLen]at hN
 omega
def ZT{k:Nat}(h:N-i=k+1):decide ((i:Int)<(N:Int))=true:=by simp;omega
def ZU(h:N-i=0):decide ((i:Int)<(N:Int))=false:=by simp;omega
def Xx{k:Nat}(h:N-i=k+1):N-(i+1)=k:=by omega
def Xy{k:Nat}(h:N-i=k+1)(hN:N<=9223372036854775807):i<9223372036854775807:=by omega
def ZX(h:n<=maxLen):n<=9223372036854775807:=by simp only [maxLen]at h;omega
variable{ix:Operand}{mm:Bool}{ops:Array Oper}{zs:List α}
section
variable{e:Exit}
section
variable{ty:TypeId}
def Dl{one:Operand}{xt yt:TypeId}(hi:i<9223372036854775807)(V:aJ E.N G x (tD (rI .i64) (i:Int)))(Y:aJ E.N G one (tD (rI .i64) 1)):
  cr E O G ⟨dst,.binOp .add xt x one yt,ty,pos,after,g⟩ (tD (rI .i64) ((i+1:Nat):Int)):=by
 have e:IntKind.i64.wrap ((i:Int)+1)=((i+1:Nat):Int):=by
  rw [q7];omega
 have:=fS (E:=E) (O:=O) (dst:=dst) (ty:=ty) (pos:=pos) (after:=after) (g:=g) (xt:=xt) (yt:=yt) V Y
 rwa [e]at this
end
def Bx(hm:mf mm r T l cap xs∈O)(h:xs.length<=maxLen->CG E bx c O G):CG E bx c O G:=fun a w S st=>by
 refine h ?_ a w S st
 obtain⟨cells,Y,_⟩:=(st.own.mem _ hm).1
 cases l with
 |none=>have:=Y.1;omega
 |some b=>obtain⟨cur,_,g2,g3,_⟩:=Y;exact yY g2 g3
def St.dataAt{k:Nat}(h:St E O G a w S)(hk:cu G k=some (tO r l cap xs)):St E O ((k,tD (fW r) xs)::G) a w S:=h.cons (h.facts.at_ k _ hk).2
def QF(k:Nat)(hk:cu G k=some (tO r l cap xs))(h:CG E bx c O ((k,tD (fW r) xs)::G)):CG E bx c O G:=fun a w S st=>h a w S (st.dataAt hk)
def eY(k:Nat)(hk:cu G k=some (tO r l cap xs))(h:AT E bx e O ((k,tD (fW r) xs)::G)):AT E bx e O G:=fun a w S st=>h a w S (st.dataAt hk)
def z6(l:Option Nat)(off:Nat):Value:=
 match l with
 |none=> .pointer none
 |some b=>M b off
def xx(h:Aa mm r T l cap xs w S){e:α}(hi:xs[i]? =some e):
  ∃b cur,l=some b/\w.heap[b]? =some (.cells cur T (0,0))/\xs.length<=cap/\cur.size=cap*r.sz/\r.rc S ((cur.toList.drop (i*r.sz)).take r.sz) e:=by
 obtain⟨cells,Y,X,_⟩:=h
 have hlt:=(sf.1 hi).1
 cases l with
 |none=>have:=Y.1;omega
 |some b=>
  obtain⟨cur,g1,g2,g3,g4,g5⟩:=Y
  refine⟨b,cur,rfl,g1,g2,g4,?_⟩
  have d:=AJ X hi
  rw [<-g5,yZ,Ae]at d
  have h4:i*r.sz+r.sz<=xs.length*r.sz:=by
   rw [<-Nat.succ_mul];exact Ak _ hlt
  rwa [xa (by omega)]at d
def ne{i:Int}{e:α}(h:gR xs i=some e):0<=i/\xs[i.toNat]? =some e:=by
 unfold gR at h
 split at h
 ·exact⟨by assumption,h⟩
 ·cases h
section
variable{ty:TypeId}
def iC{e:TypeId}{i:Int}(D:E.P.underlying t=some (.slice e))(ti:TI E.P e sz bytes agg z)(hm:mf mm r U l cap xs∈O)(V:aJ E.N G x (Z (au l cap n)))(hi:aJ E.N G ix (tD (rI k) i))(hy:gR xs i=some y)(hn:n=xs.length:=by rfl):
  cr E O G ⟨dst,.indexAddr t x ix,ty,pos,after,g⟩ (Z (z6 l (i.toNat*sz+0))):=
 .of_pure fun a w S _ ho hf=>by
  subst hn
  have Y:a.eval x=au l cap xs.length:=V S a hf
  have d:a.eval ix= .int k i:=dK.1 (hi S a hf)
  obtain⟨h0,hy'⟩:=ne hy
  obtain⟨b,cur,rfl,_⟩:=xx (ho.mem _ hm).1 hy'
  have hlt:i.toNat<xs.length:=(sf.1 hy').1
  refine⟨_,?_,rfl⟩
  have hc:0<=i/\i<(xs.length:Int):=⟨h0,by omega⟩
  simp [execOp,Y,d,au,Instr.indexAt,asIntOf,jo D,hc,ti.sizeOf,jl,z6,M]
def nc{foff:Nat}{i:Int}{p:Operand}(ti:TI E.P T sz bytes agg z)(hsz:q.sz=sz)(hag:q.agg=agg)(hget:lC r foff q get)(hoff:Nat.ble (foff+q.sz) r.sz=true)(hm:mf mm r U l cap xs∈O)(hy:gR xs i=some y)(hp:aJ E.N G p (Z (z6 l (i.toNat*r.sz+foff)))):cr E O G ⟨dst,.load T p,ty,pos,after,g⟩ (tD q (get y)):=
 .of_pure fun a w S _ ho hf=>by
  have Y:a.eval p=z6 l (i.toNat*r.sz+foff):=hp S a hf
  obtain⟨h0,hy'⟩:=ne hy
  obtain⟨b,cur,rfl,K,_,_,h6⟩:=xx (ho.mem _ hm).1 hy'
  have hoff' :=rM hoff
  have h7:=hget S _ _ h6
  rw [yZ,Ae,sn,xa (by omega)]at h7
  refine⟨_,?_,_,rfl,h7⟩
  simp [execOp,Y,z6,M,Instr.loadAt,Instr.sureAddr,k9 ti K hsz hag h7]
end
def Dh{α:Type}{r:Rp α}{S:SH}{y:α}{c:List Value}(hc:r.rc S c y): ∀{xs:List α} {i:Nat} {cs:List Value},q0 r S cs xs->i<xs.length->q0 r S (cs.take (i*r.sz)++c++cs.drop (i*r.sz+r.sz)) (xs.set i y)
 |[],_,_,_,h=>by simp at h
 |x::xs,0,cs,⟨a,b,e,Y,X⟩,_=>by
  have hl:=r.len Y
  refine⟨c,b,?_,hc,X⟩
  rw [e,<-hl];simp
 |x::xs,i+1,cs,⟨a,b,e,Y,X⟩,h=>by
  have hl:=r.len Y
  have ih:=Dh hc X (i:=i) (by simpa using h)
  refine⟨a,_,?_,Y,ih⟩
  have e1:(i+1)*r.sz=a.length+i*r.sz:=by rw [hl,w8];omega
  rw [e,e1,List.take_length_add_append,Nat.add_assoc,List.drop_length_add_append]
  simp
def Ch{set:α->β->α}{foff:Nat}{v:β}{i:Int}{p:Operand}{ty:TypeId}(ti:TI E.P T sz bytes agg z)(hsz:q.sz=sz)(hset:eV r foff q set)(hoff:Nat.ble (foff+q.sz) r.sz=true)(hy:gR xs i=some y)(hz:xs.set i.toNat (set y v)=zs)(hp:aJ E.N G p (Z (z6 l (i.toNat*r.sz+foff))))(V:aJ E.N G x (tD q v))(k:RG E ops bx rest (dk r U l cap zs::O) G):
  RG E ops bx (⟨none,.store T p x,ty,pos,after,none⟩::rest) (dk r U l cap xs::O) G:= .of rfl fun a w S st=>by
 subst hz
 have Y:a.eval p=z6 l (i.toNat*r.sz+foff):=hp S a st.facts
 obtain⟨ds,X,d⟩:=V S a st.facts
 obtain⟨h0,hy'⟩:=ne hy
 have hlt:i.toNat<xs.length:=(sf.1 hy').1
 obtain⟨cells,hraw,hrc,hno⟩:=st.own.1.1
 obtain⟨b,cur,rfl,K,hle,hcs,h6⟩:=xx st.own.1.1 hy'
 obtain⟨cur',hb',hle',hmax,hcs',hct⟩:=hraw
 have hcc:cur' =cur:=by rw [K]at hb';injection hb' with e;injection e with e1;exact e1.symm
 subst hcc
 have hno' :S b=none:=hno b rfl
 have hoff' :=rM hoff
 have hl3:=q.len d
 have hmul:i.toNat*r.sz+r.sz<=xs.length*r.sz:=by rw [<-Nat.succ_mul];exact Ak _ hlt
 have hmul2:xs.length*r.sz<=cur'.size:=by rw [hcs];exact Ak _ hle
 obtain⟨w',hr,e1,e2,e3,e4,e5,e6⟩:=kc ti hsz d K (off:=i.toNat*r.sz+foff) (by omega)
 have hrun:(execOp a.eval ⟨none,.store T p x,ty,pos,after,none⟩).run E.P w= .ok .skip w' :=by
  simp [execOp,Y,X,Instr.storeAt,z6,M,Instr.sureAddr,hr]
 refine⟨fun c h=>(by cases h),?_⟩
 rw [hrun]
 have hnew:=hset S _ _ _ _ h6 d
 have hrc' :=Dh hnew hrc hlt
 have hcl:=kC hrc
 have hcells:(cur'.toList.take (i.toNat*r.sz+foff)++ds++cur'.toList.drop (i.toNat*r.sz+foff+q.sz)).take (xs.length*r.sz)=
   cells.take (i.toNat*r.sz)++(((cur'.toList.drop (i.toNat*r.sz)).take r.sz).take foff++ds++((cur'.toList.drop (i.toNat*r.sz)).take r.sz).drop (foff+q.sz))++cells.drop (i.toNat*r.sz+r.sz):=by
  subst hct
  apply List.ext_getElem?
  intro j
  simp only [List.getElem?_take,List.getElem?_append,vH,DA,CV,kw,Cs]
  rcases nS j (xs.length*r.sz)with hj|hj
  ·simp only [hj,jL]
   rcases nS j (i.toNat*r.sz)with hj1|hj1
   ·rw [bh (by omega),bh (by omega),bh (by omega),bh (by omega),bh (by omega),bh (by omega)]
   ·rcases nS j (i.toNat*r.sz+foff)with hj2|hj2
    ·rw [bh (by omega),bh (by omega),bh (by omega),bh (by omega),aR (by omega),bh (by omega),bh (by omega),bh (by omega),bh (by omega)]
     congr 1;omega
    ·rcases nS j (i.toNat*r.sz+foff+q.sz)with hj3|hj3
     ·rw [bh (by omega),aR (by omega),bh (by omega),aR (by omega),bh (by omega),aR (by omega)]
      congr 1;omega
     ·rw [aR (by omega)]
      rcases nS j (i.toNat*r.sz+r.sz)with hj4|hj4
      ·rw [bh (by omega),aR (by omega),aR (by omega),bh (by omega)]
       congr 1;omega
      ·rw [aR (by omega),bh (by omega)]
       congr 1;omega
  ·rw [aR (by omega),aR (by omega),aR (by omega)]
 obtain⟨g1,g2,g3⟩:=nl (O:=O) st.sat (dk r U (some b) cap xs) (dk r U (some b) cap (xs.set i.toNat (set y v))) st.own (fun k=>⟨fun h=>(qp h).symm,fun h=>by rw [h];rfl⟩) (fun k=>⟨fun h=>(qp h).symm,fun h=>by rw [h];rfl⟩) ⟨e1,e2,e3,e4.1,e4.2⟩ e6
  ⟨_,⟨_,e5,by rw [CU];exact hle,hmax,by simp only [F7,kw,DA,CV,Cs];omega,by rw [CU];exact hcells⟩,hrc',fun k hk=>by rw [<-qp hk];exact hno'⟩ hno'
 exact k _ _ S ⟨st.ext.step g1 (fun c hc=>st.own.1.2 c (by rw [hc];rfl)),g2,g3,st.facts⟩

def nE(sz:Nat)(l:Option Nat)(cap lo n:Nat):Value:=
 match l with
 |none=> .slice none 0 0
 |some b=> .slice (some ⟨b,if cap=lo then 0 else lo*sz,none⟩) n (cap-lo)
section
variable{ty:TypeId}
def GG(h:Aa mm r U l cap xs w S): ∃ad c,au l cap xs.length= .slice ad xs.length c/\xs.length<=c/\ad=l.map (fun b=>⟨b,0,none⟩)/\(l=none->c=0/\xs=[])/\(l≠none->c=cap):=by
 obtain⟨cells,Y,_⟩:=h
 cases l with
 |none=>
  have V:xs=[]:=rN Y.1
  subst V
  exact⟨none,0,rfl,eg _,rfl,fun _=>⟨rfl,rfl⟩,fun h=>absurd rfl h⟩
 |some b=>
  obtain⟨cur,_,g2,_⟩:=Y
  exact⟨_,cap,rfl,g2,rfl,fun h=>(by cases h),fun _=>rfl⟩
def om{hi:Operand}(D:E.P.underlying t=some (.slice T))(ti:TI E.P T sz bytes agg z)(hsz:r.sz=sz)(hm:mf mm r U l cap xs∈O)(V:aJ E.N G x (Z (au l cap n)))(hhi:aJ E.N G hi (tD (rI k') j))(h:dV xs 0 j=some ys)(hn:n=xs.length:=by rfl):cr E O G ⟨dst,.slice t x none (some hi) none,ty,pos,after,g⟩ (Z (au l cap ys.length)):=
 .of_pure fun a w S _ ho hf=>by
  subst hsz
  subst hn
  have Y:a.eval x=au l cap xs.length:=V S a hf
  obtain⟨ad,c,X,d,h4,h5,h5'⟩:=GG (ho.mem _ hm).1
  have h6:=dK.1 (hhi S a hf)
  obtain⟨lo,m,hl,rfl,h7,h8,rfl⟩:=fR h
  have hl0:lo=0:=by omega
  subst hl0
  have hlen:((xs.take m).drop 0).length=m:=by simp;omega
  refine⟨_,?_,rfl⟩
  rw [X]at Y
  have hr:(execOp a.eval ⟨dst,.slice t x none (some hi) none,ty,pos,after,g⟩).run E.P w= .ok (.value (.slice ad m c)) w:=by
   simp [execOp,Instr.sliceAt,Y,h6,Instr.slice,jo D,Instr.sliceBounds,jM (k:=k') (n:=(m:Int)) (y:=c) (by omega) (by omega),ti.sizeOf]
   cases ad<;>simp [Addr.add]
  rw [hr,hlen,h4]
  cases l with
  |none=>
   obtain⟨rfl,rfl⟩:=h5 rfl
   have:m=0:=by simpa using h8
   subst this;rfl
  |some b=>rw [h5' (by simp)];rfl
def qd{lo:Operand}{i:Int}(D:E.P.underlying t=some (.slice T))(ti:TI E.P T sz bytes agg z)(hsz:r.sz=sz)(hm:mf mm r U l cap xs∈O)(V:aJ E.N G x (Z (au l cap n)))(hlo:aJ E.N G lo (tD (rI k) i))(h:dV xs i (xs.length:Int)=some ys)(hn:n=xs.length:=by rfl):cr E O G ⟨dst,.slice t x (some lo) none none,ty,pos,after,g⟩ (Z (nE sz l cap i.toNat ys.length)):=
 .of_pure fun a w S _ ho hf=>by
  subst hsz
  subst hn
  have Y:a.eval x=au l cap xs.length:=V S a hf
  obtain⟨ad,c,X,d,h4,h5,h5'⟩:=GG (ho.mem _ hm).1
  have h6:=dK.1 (hlo S a hf)
  obtain⟨lo',m,rfl,hm',h7,h8,rfl⟩:=fR h
  have hm2:m=xs.length:=by omega
  subst hm2
  have hlen:((xs.take xs.length).drop lo').length=xs.length-lo' :=by simp
  refine⟨_,?_,rfl⟩
  rw [X]at Y
  have hr:(execOp a.eval ⟨dst,.slice t x (some lo) none none,ty,pos,after,g⟩).run E.P w= .ok (.value (.slice (if c=lo' then ad else ad.map (·.add (lo' *r.sz))) (xs.length-lo') (c-lo'))) w:=by
   simp [execOp,Instr.sliceAt,Y,h6,Instr.slice,jo D,Instr.sliceBounds,jM (k:=k) (n:=(lo' :Int)) (y:=xs.length) (by omega) (by omega),ti.sizeOf]
  rw [hr,hlen,h4]
  cases l with
  |none=>
   obtain⟨rfl,rfl⟩:=h5 rfl
   have:lo' =0:=by simpa using h7
   subst this;rfl
  |some b=>
   rw [h5' (by simp)]
   unfold nE
   simp only [u0,pr,jl,uX]
   split<;>rfl
def zA{i:Int}(h:dV xs lo hi=some ys)(hy:gR ys i=some y):gR xs (lo+i)=some y/\0<=lo/\0<=i:=by
 obtain⟨l,m,rfl,rfl,Y,X,rfl⟩:=fR h
 obtain⟨h0,d⟩:=ne hy
 refine⟨?_,by omega,h0⟩
 obtain⟨j,rfl⟩: ∃j:Nat,i=j:=⟨i.toNat,by omega⟩
 rw [show((l:Int)+(j:Int))=((l+j:Nat):Int)from by omega,eU]
 rw [vH,u0]at d
 have hlt:l+j<m:=by
  have:=(sf.1 d).1
  simp at this;omega
 rwa [yU hlt]at d
def zd{e:TypeId}{i:Int}(D:E.P.underlying t=some (.slice e))(ti:TI E.P e sz bytes agg z)(hsz:r.sz=sz)(hm:mf mm r U l cap xs∈O)(hs:dV xs lo hi=some ys)(V:aJ E.N G x (Z (nE sz l cap lo.toNat ys.length)))(hi' :aJ E.N G ix (tD (rI k) i))(hy:gR ys i=some y):
  cr E O G ⟨dst,.indexAddr t x ix,ty,pos,after,g⟩ (Z (z6 l ((lo+i).toNat*sz+0))):=
 .of_pure fun a w S _ ho hf=>by
  subst hsz
  have Y:a.eval x=nE r.sz l cap lo.toNat ys.length:=V S a hf
  have d:a.eval ix= .int k i:=dK.1 (hi' S a hf)
  obtain⟨hxi,hl0,hi0⟩:=zA hs hy
  obtain⟨_,hx'⟩:=ne hxi
  obtain⟨b,cur,rfl,_,hle,_⟩:=xx (ho.mem _ hm).1 hx'
  have hlt:i.toNat<ys.length:=(sf.1 (ne hy).2).1
  have hlt2:(lo+i).toNat<xs.length:=(sf.1 hx').1
  have hne: ¬(cap=lo.toNat):=by omega
  refine⟨_,?_,rfl⟩
  have hc:0<=i/\i<(ys.length:Int):=⟨hi0,by omega⟩
  have e1:(lo+i).toNat=lo.toNat+i.toNat:=by omega
  simp [execOp,Y,d,nE,hne,Instr.indexAt,asIntOf,jo D,hc,ti.sizeOf,jl,z6,M,e1,w8]
def NY{e:TypeId}(D:E.P.underlying t=some (.slice e))(hm:mf mm r U l cap xs∈O)(hs:dV xs lo hi=some ys)(V:aJ E.N G x (Z (nE sz l cap lo.toNat ys.length))):
  cr E O G ⟨dst,.call ⟨.builtin .len,#[x],#[t]⟩,ty,pos,after,g⟩ (tD (rI .i64) (ys.length:Int)):=
 .of_pure fun a w S _ ho hf=>by
  have Y:a.eval x=nE sz l cap lo.toNat ys.length:=V S a hf
  obtain⟨ad,c,d⟩: ∃ad c,nE sz l cap lo.toNat ys.length= .slice ad ys.length c:=by
   cases l with
   |none=>
    obtain⟨_,X,_⟩:=(ho.mem _ hm).1
    have hx0:xs=[]:=rN X.1
    subst hx0
    obtain⟨l',m,_,_,_,h8,rfl⟩:=fR hs
    exact⟨none,0,by simp [nE]⟩
   |some b=>exact⟨_,_,rfl⟩
  refine⟨.int .i64 ys.length,?_,dK.2 rfl⟩
  simp [execOp,resolve,invoke,builtin,Builtin.len_,jo D,Y,d,goInt]
end
def ON(h:dV xs 0 j=some ys)(k:Aa false r U l cap xs w S):Aa false r U l cap ys w S:=by
 obtain⟨lo,m,hl,rfl,h7,h8,rfl⟩:=fR h
 have hl0:lo=0:=by omega
 subst hl0
 obtain⟨cells,Y,X,d⟩:=k
 have hlen:((xs.take m).drop 0).length=m:=by simp;omega
 have h4:q0 r S (cells.take (m*r.sz)) (xs.take m):=by
  have e:xs=xs.take m++xs.drop m:=(s6 _ _).symm
  rw [e]at X
  have:=(qb X).1
  rwa [show(xs.take m).length=m from by simp;omega]at this
 refine⟨cells.take (m*r.sz),?_,by simpa using h4,fun b K=>d b K⟩
 rw [hlen]
 cases l with
 |none=>
  obtain⟨g1,g2⟩:=Y
  exact⟨by omega,by rw [g2];simp⟩
 |some b=>
  obtain⟨cur,g1,g2,g3,g4,g5⟩:=Y
  exact⟨cur,g1,by omega,g3,g4,by rw [<-g5,Ae,xa (Ak _ h8)]⟩
def St.cut(h:dV xs 0 j=some ys)(st:St E (dk r U l cap xs::O) G a w S):St E (dk r U l cap ys::O) G a w S:=
 st.own_map fun ho=>⟨⟨ON h ho.1.1,ho.1.2⟩,ho.2.1,ho.2.2⟩
def Fg(h:dV xs 0 j=some ys)(k:RG E ops bx rest (dk r U l cap ys::O) G):RG E ops bx rest (dk r U l cap xs::O) G:=fun a w S st=>k a w S (st.cut h)
end

variable{x0 x1 x2 x3 x4 x5 x6:OE}
section
variable{e:Exit}
def tK{O:List OE}(h:er base B w S (x0::x1::x2::x3::x4::x5::O)):er base B w S (x5::x0::x1::x2::x3::x4::O):=
 (vz h wC (fun f hf=>by simp only [jf]at hf ⊢;rcases hf with h|h|h|h|h|h<;>simp [h])).swap
def mO(h:RG E ops bx rest (x5::x0::x1::x2::x3::x4::O) G):RG E ops bx rest (x0::x1::x2::x3::x4::x5::O) G:=fun a w S st=>h a w S (st.own_map tK)
def eO(h:AT E bx e (x5::x0::x1::x2::x3::x4::O) G):AT E bx e (x0::x1::x2::x3::x4::x5::O) G:=fun a w S st=>h a w S (st.own_map tK)
def yQ(h:LG E bx c (x5::x0::x1::x2::x3::x4::O) G):LG E bx c (x0::x1::x2::x3::x4::x5::O) G:=fun a w S st=>h a w S (st.own_map tK)
def tJ{O:List OE}(h:er base B w S (x0::x1::x2::x3::x4::x5::x6::O)):er base B w S (x6::x0::x1::x2::x3::x4::x5::O):=
 (vz h tK (fun f hf=>by simp only [jf]at hf ⊢;rcases hf with h|h|h|h|h|h|h<;>simp [h])).swap
def qm(h:RG E ops bx rest (x6::x0::x1::x2::x3::x4::x5::O) G):RG E ops bx rest (x0::x1::x2::x3::x4::x5::x6::O) G:=fun a w S st=>h a w S (st.own_map tJ)
def iW(h:AT E bx e (x6::x0::x1::x2::x3::x4::x5::O) G):AT E bx e (x0::x1::x2::x3::x4::x5::x6::O) G:=fun a w S st=>h a w S (st.own_map tJ)
def s0(h:LG E bx c (x6::x0::x1::x2::x3::x4::x5::O) G):LG E bx c (x0::x1::x2::x3::x4::x5::x6::O) G:=fun a w S st=>h a w S (st.own_map tJ)
def Fk{x7:OE}{O:List OE}(h:er base B w S (x0::x1::x2::x3::x4::x5::x6::x7::O)):er base B w S (x7::x0::x1::x2::x3::x4::x5::x6::O):=
 (vz h tJ (fun f hf=>by simp only [jf]at hf ⊢;rcases hf with h|h|h|h|h|h|h|h<;>simp [h])).swap
def yN{x7:OE}(h:RG E ops bx rest (x7::x0::x1::x2::x3::x4::x5::x6::O) G):RG E ops bx rest (x0::x1::x2::x3::x4::x5::x6::x7::O) G:=fun a w S st=>h a w S (st.own_map Fk)
end

def yq(h:xs.set i y=zs):zs.length=xs.length:=by rw [<-h,CU]
section
def sZ(hl:m=n)(ae:Nat)(hs:cu G ae=some (Z (au l cap n)))(k:RG E ops bx rest O ((ae,Z (au l cap m))::G)):RG E ops bx rest O G:=by
 subst hl
 exact fun a w S st=>k a w S (st.cons (st.facts.at_ ae _ hs))
end

def eh{o1 o2:Nat}{g1:α->β}{g2:β->γ}(Y:lC r o1 q g1)(X:lC q o2 ae g2)(K:Nat.ble (o2+ae.sz) q.sz=true:=by rfl):lC r (o1+o2) ae (fun x=>g2 (g1 x)):=fun S cs x h=>by
 have d:=X S _ _ (Y S cs x h)
 have hb' :=rM K
 rwa [yZ,Ae,sn,xa (by omega)]at d
def oP{o1 o2:Nat}{g1:α->β}{u1:α->β->α}{u2:β->γ->β}(Y:lC r o1 q g1)(k1:eV r o1 q u1)(k2:eV q o2 ae u2)(K:Nat.ble (o2+ae.sz) q.sz=true:=by rfl)(hc:Nat.ble (o1+q.sz) r.sz=true:=by rfl):
  eV r (o1+o2) ae (fun x y=>u1 x (u2 (g1 x) y)):=fun S cs x ds y h hy=>by
 have hb' :=rM K
 have hc' :=rM hc
 have hl:=r.len h
 have d:=k1 S cs x _ _ h (k2 S _ _ ds y (Y S cs x h) hy)
 have e:cs.take (o1+o2)++ds++cs.drop (o1+o2+ae.sz)=cs.take o1++(((cs.drop o1).take q.sz).take o2++ds++((cs.drop o1).take q.sz).drop (o2+ae.sz))++cs.drop (o1+q.sz):=by
  rw [Ae,xa (by omega),yZ,sn,List.take_add,show o1+(o2+ae.sz)=o1+o2+ae.sz from by omega]
  simp only [pD]
  congr 3
  have e2:cs.drop (o1+q.sz)=(cs.drop (o1+o2+ae.sz)).drop (q.sz-(o2+ae.sz)):=by rw [sn];congr 1;omega
  rw [e2,s6]
 rw [e];exact d

def bk(P:Program)(f:FuncId)(ts:List Ty)(O1:List OE){ι:Type}(t:ι->Ty)(O2:ι->List OE):Prop:=
 ∀w S vs,mt w S->w7 S ts vs->er 0 tY w S O1->Calls P f vs.toArray w fun en w' => ∃i v S',en= .returned v/\(t i).p S' v/\kh (fun k=> ∃f∈O1,f.fp k) w S w' S' /\mt w' S' /\er 0 tY w' S' (O2 i)/\ ∀k,(∃f∈O2 i,f.fp k)->(∃f∈O1,f.fp k)\/w.heap.size<=k
def MX(E:En)(O1:List OE){ι:Type}(t:ι->Ty)(O2:ι->List OE):Ending->World->Prop:=fun en w' =>
 ∃i v S',en= .returned v/\(t i).p S' v/\kh E.B E.w0 E.S0 w' S' /\mt w' S' /\er 0 tY w' S' (O2 i)/\ ∀k,(∃f∈O2 i,f.fp k)->(∃f∈O1,f.fp k)\/E.w0.heap.size<=k
def GU(O1:List OE):Nat->Prop:=fun k=> ∃f∈O1,f.fp k
def bk.of{t:ι->Ty}(hf:P.funcs[f]? =some fn)(K:fn.body=some c)(hN:fn.ntmps=N)(hn:Nat.ble ts.length N=true)(h: ∀w0 S0,CG ⟨P,⟨N,[]⟩,GU O1,w0,S0,none⟩ (bodyPost P fn (MX ⟨P,⟨N,[]⟩,GU O1,w0,S0,none⟩ O1 t O2)) c O1 (zf 0 ts)):bk P f ts O1 t O2:=by
 subst hN
 intro w S vs hs hv ho
 exact wy.1 (callsIn_of_wp (F:=fw none) (n:=0) hf K trivial (h w S _ w S ⟨jn _ _ _,hs,yO ho fun f hf k hk=> .inr ⟨f,hf,hk⟩,zY hv _ (rM hn)⟩))
def Bh{t:ι->Ty}{v:Value}(st:St E O G a w S)(hB:E.B=GU O1)(i:ι)(hO:O=O2 i)(hv:(t i).p S v):MX E O1 t O2 (.returned v) w:=by
 subst hO
 refine⟨i,v,S,rfl,hv,st.ext,st.sat,st.own.weak,fun k ⟨f,hf,hk⟩=>?_⟩
 rcases(er.mem st.own f hf).2 k hk with h|h
 ·exact .inr h
 ·rw [hB]at h;exact .inl h
section
variable{t:ι->Ty}
def bF{k:Nat}{u:Ty}(hr:fn.results= #[.tmp k])(i:ι)(hO:O=O2 i)(hk:cu G k=some u)(hu: ∀S v,u.p S v->(t i).p S v):
  AT ⟨P,⟨N,[]⟩,GU O1,w0,S0,none⟩ (bodyPost P fn (MX ⟨P,⟨N,[]⟩,GU O1,w0,S0,none⟩ O1 t O2)) .ret O G:=fun _ _ S st=>
 ⟨st.facts.defers,_,sh P fn k hr _ _,Bh st rfl i hO (hu S _ (st.facts.at_ k u hk))⟩
def qX(hr:fn.results= #[])(i:ι)(hO:O=O2 i)(D:t i=tT []):
  AT ⟨P,⟨N,[]⟩,GU O1,w0,S0,none⟩ (bodyPost P fn (MX ⟨P,⟨N,[]⟩,GU O1,w0,S0,none⟩ O1 t O2)) .ret O G:=fun _ _ S st=>
 ⟨st.facts.defers,_,va P fn hr _ _,Bh st rfl i hO (by rw [D];exact⟨[],rfl,trivial⟩)⟩
def eN(hr:fn.results= #[])(i:ι)(hO:O=O2 i)(D:t i=tT []):
  AT ⟨P,⟨N,[]⟩,GU O1,w0,S0,none⟩ (bodyPost P fn (MX ⟨P,⟨N,[]⟩,GU O1,w0,S0,none⟩ O1 t O2)) .normal O G:=fun _ _ S st=>
 ⟨st.facts.defers,_,va P fn hr _ _,Bh st rfl i hO (by rw [D];exact⟨[],rfl,trivial⟩)⟩
end
def Fj: ∀{O1 O2:List OE},er base B w S O1->er base B w S O2->(∀e∈O1,∀f∈O2,e.apart f)->er base B w S (O1++O2)
 |[],_,_,h,_=>h
 |e::O1,O2,⟨Y,X,d⟩,h,ha=>⟨Y,fun f hf=>(tQ.1 hf).elim (X f) (ha e (nA ..) f),Fj d h fun g H f hf=>ha g (pp _ H) f hf⟩
variable{ats:Array TypeId}
section
variable{ty:TypeId}
def St.turn{Or O2:List OE}(st:St E (O1++Or) G a w S)(V:kh (fun k=> ∃f∈O1,f.fp k) w S w' S')(hs:mt w' S')(ho:er 0 tY w' S' O2)(hn: ∀k,(∃f∈O2,f.fp k)->(∃f∈O1,f.fp k)\/w.heap.size<=k):St E (O2++Or) G a w' S' :=by
 obtain⟨Y,X,d⟩:=qn st.own
 have hbl:=st.base_le
 refine⟨st.ext.step V (fun b ⟨f,hf,K⟩=>(er.mem Y f hf).2 b K),hs,Fj (yO ho fun f hf k hk=>?_) (X.ext V fun f hf b K ⟨g,H,hgb⟩=>d g H f hf b hgb K) (fun e he f hf b heb hfb=>?_),st.facts.mono V.keep⟩
 ·rcases hn k ⟨f,hf,hk⟩with⟨g,H,hgk⟩|h
  ·exact(er.mem Y g H).2 k hgk
  ·exact .inl (yY hbl h)
 ·rcases hn b ⟨e,he,heb⟩with⟨g,H,hgb⟩|h
  ·exact d g H f hf b hgb hfb
  ·have:=f.here (er.mem X f hf).1 b hfb
   omega
def Fi{xs:List Operand}(O1 Or:List OE){t:ι->Ty}(hO:O=O1++Or)(hc:ak E.P f=true)(hs:bk E.P f ts O1 t O2)(V:kL E.N G xs ts)(hd:Nat.blt h3 E.N.n=true)(k: ∀i,RG E ops bx rest (O2 i++Or) ((h3,t i)::G)):
  RG E ops bx (⟨some h3,.call ⟨.value (.func f),xs.toArray,ats⟩,ty,pos,after,none⟩::rest) O G:= .of rfl fun a w S st=>by
 subst hO
 have hr:(execOp a.eval ⟨some h3,.call ⟨.value (.func f),xs.toArray,ats⟩,ty,pos,after,none⟩).run E.P w= .ok (.enter f (xs.map a.eval).toArray) w:=by
  simp [execOp,resolve,Act.eval,Deferred.ofValue,invoke,iF hc]
 refine⟨fun c h=>(by cases h),?_⟩
 rw [hr]
 refine(hs w S _ st.sat (V.tys st.facts) (qn st.own).1.weak).mono fun en w' ⟨i,v,S',he,hv,Y,X,d,h4⟩=>⟨_,he,?_⟩;exact k i _ _ S' ((st.turn Y X d h4).put hd hv)
end

structure OI where
 h:Nat->Option Nat×Nat:=fun _=>(none,0)
 os:List (Option Nat×Nat):=[]
 fp:Nat->Prop:=tY
 v:Value:=undef
 ng:Nat->(Option Nat×Nat)×(Nat->Option Nat×Nat):=fun _=>((none,0),fun _=>(none,0))
def jK:OI:={}
def oi(l:Option Nat)(c:Nat):OI:={h:=fun _=>(l,c)}
def EffOK(E:En)(O:List OE)(need:mb)(o:Oper)(post:OI->List OE)(t:OI->Ty):Prop:=
 ∀a w S,mt w S->er E.base E.B w S O->bT E.N S a need->E.base<=w.heap.size->
  J3 E.P o a w (fun a' w' => ∃v S' x,a' =a.put o.dst v/\kh (GU O) w S w' S' /\mt w' S' /\er E.base E.B w' S' (post x)/\(t x).p S' v)
variable{post:OI->List OE}{t' :TypeId}
section
variable{ty:TypeId}
def E5{y:Operand}{u:OI->Ty}(ti:TI E.P T sz bytes agg z)(hsz:r.sz=sz)(hz:Nat.beq z.length sz=true)(h0:Nat.blt 0 sz=true)(h128:Nat.ble bytes 2048=true)(D:E.P.underlying t=some (.slice T))(V:aJ E.N G x (Z (au l cap n)))(hy: ∀a w S,mt w S->bT E.N S a G-> ∃news,Src E.P r.sz t' (a.eval y) ys.length news w/\q0 r S news ys)(happ:app xs ys=some zs)(hu: ∀l' cap' w0 S,(mf mm r T l' cap' zs).p w0 S->(u (oi l' cap')).p S (au l' cap' zs.length))(hn:n=xs.length):
  EffOK E (mf mm r T l cap xs::O) G ⟨some h3,.call ⟨.builtin .append,#[x,y],#[t,t']⟩,ty,pos,after,g⟩ (fun i=>mf mm r T (i.h 0).1 (i.h 0).2 zs::O) u:=fun a w S hs ho hf K=>by
 subst hn
 have Y:a.eval x=au l cap xs.length:=V S a hf
 obtain⟨news,X,d⟩:=hy a w S hs hf
 obtain⟨l',cap',w',S',hr,hext,hsat,hh,hnew⟩:=xo (ty:=ty) ti hsz hz h0 h128 D hs ho.1 K X d happ
 have hrun:(execOp a.eval ⟨some h3,.call ⟨.builtin .append,#[x,y],#[t,t']⟩,ty,pos,after,g⟩).run E.P w= .ok (.value (au l' cap' zs.length)) w' :=by
  simp [execOp,resolve,invoke,builtin,Y,hr]
 refine⟨fun c h=>(by cases h),?_⟩
 rw [hrun]
 refine⟨_,S',oi l' cap',rfl,hext.more fun b K=>⟨_,nA ..,K⟩,hsat,⟨hh,fun f hf b K hfb=>?_,ho.2.2.ext hext fun f hf b K hbl=>ho.2.1 f hf b hbl K⟩,hu l' cap' w' S' hh.1⟩
 rcases hnew b K with h|h
 ·exact ho.2.1 f hf b h hfb
 ·have:=f.here (er.mem ho.2.2 f hf).1 b hfb
  omega
def uB{y:Operand}(ti:TI E.P T sz bytes agg z)(hsz:r.sz=sz)(hz:Nat.beq z.length sz=true)(h0:Nat.blt 0 sz=true)(h128:Nat.ble bytes 2048=true)(D:E.P.underlying t=some (.slice T))(ht' :t' =t)(V:aJ E.N G x (Z (au l cap n)))(hy:aJ E.N G y (tD (fW r) ys))(happ:app xs ys=some zs)(hn:n=xs.length:=by rfl):
  EffOK E (dk r T l cap xs::O) G ⟨some h3,.call ⟨.builtin .append,#[x,y],#[t,t']⟩,ty,pos,after,g⟩ (fun i=>dk r T (i.h 0).1 (i.h 0).2 zs::O) (fun i=>Z (au (i.h 0).1 (i.h 0).2 zs.length)):=by
 subst ht'
 exact E5 ti hsz hz h0 h128 D V (fun a w S hs hf=>ue D hs (hy S a hf)) happ (fun _ _ _ _ _=>rfl) hn
def KO{y:Operand}(ti:TI E.P T sz bytes agg z)(hsz:r.sz=sz)(hz:Nat.beq z.length sz=true)(h0:Nat.blt 0 sz=true)(h128:Nat.ble bytes 2048=true)(D:E.P.underlying t=some (.slice T))(ht' :t' =t)(V:aJ E.N G x (tO r l cap xs))(hy:aJ E.N G y (tD (fW r) ys))(happ:app xs ys=some zs):
  EffOK E (tip r T l cap xs::O) G ⟨some h3,.call ⟨.builtin .append,#[x,y],#[t,t']⟩,ty,pos,after,g⟩ (fun i=>tip r T (i.h 0).1 (i.h 0).2 zs::O) (fun i=>tO r (i.h 0).1 (i.h 0).2 zs):=by
 subst ht'
 exact E5 ti hsz hz h0 h128 D (C4 V) (fun a w S hs hf=>ue D hs (hy S a hf)) happ (fun _ _ _ _ h=>⟨rfl,m8 h⟩) rfl
def Qj{xs:List Operand}{u:OI->Ty}(hc:ak E.P f=true)(hs:jy E.P f ts mm r T ys)(V:kL E.N G xs ts)(hu: ∀l cap w0 S,(mf mm r T l cap ys).p w0 S->(u (oi l cap)).p S (au l cap ys.length)):
  EffOK E O G ⟨some h3,.call ⟨.value (.func f),xs.toArray,ats⟩,ty,pos,after,g⟩ (fun i=>mf mm r T (i.h 0).1 (i.h 0).2 ys::O) u:=fun a w S hsat ho hf K=>by
 have hr:(execOp a.eval ⟨some h3,.call ⟨.value (.func f),xs.toArray,ats⟩,ty,pos,after,g⟩).run E.P w= .ok (.enter f (xs.map a.eval).toArray) w:=by
  simp [execOp,resolve,Act.eval,Deferred.ofValue,invoke,iF hc]
 refine⟨fun c h=>(by cases h),?_⟩
 rw [hr]
 exact(hs w S _ hsat (V.tys hf)).mono fun e w' ⟨l,cap,S',he,Y,X,d⟩=>⟨_,he,_,S',oi l cap,rfl,Y.more fun _ K=>K.elim,X,rG ho Y d.1 (fun b K=>(d.2 b K).resolve_right id) K,hu l cap w' S' d.1⟩
def jy.tip(h:jy P f ts mm r T ys):jy P f ts true r T ys:=by
 cases mm with
 |true=>exact h
 |false=>
  intro w S vs hs hv
  refine(h w S vs hs hv).mono fun e w' ⟨l,cap,S',he,Y,X,d⟩=>?_
  have st:St ⟨default,⟨0,[]⟩,tY,w,S,none⟩ [dk r T l cap ys] [] ⟨#[],[]⟩ w' S' :=⟨Y,X,⟨d,fun _ hf=>(by cases hf),trivial⟩,⟨rfl,rfl,fun _ _ h=>(by simp [cu]at h)⟩⟩
  obtain⟨S'',h4⟩:=st.freeze
  exact⟨l,cap,S'',he,h4.ext,h4.sat,h4.own.1⟩
def vu{xs:List Operand}(hc:ak E.P f=true)(hs:jy E.P f ts mm r T ys)(V:kL E.N G xs ts):
  EffOK E O G ⟨some h3,.call ⟨.value (.func f),xs.toArray,ats⟩,ty,pos,after,g⟩ (fun i=>Go.Proofs.YtdohlidddcgfjaaGreat.tip r T (i.h 0).1 (i.h 0).2 ys::O) (fun i=>tO r (i.h 0).1 (i.h 0).2 ys):=Qj hc hs.tip V (fun _ _ _ _ h=>⟨rfl,m8 h⟩)
def er.turn{Or O2:List OE}(h:er base B w S (O1++Or))(hbl:base<=w.heap.size)(V:kh (GU O1) w S w' S')(ho:er 0 tY w' S' O2)(hn: ∀k,(∃f∈O2,f.fp k)->(∃f∈O1,f.fp k)\/w.heap.size<=k):er base B w' S' (O2++Or):=by
 obtain⟨Y,X,d⟩:=qn h
 refine Fj (yO ho fun f hf k hk=>?_) (X.ext V fun f hf b K ⟨g,H,hgb⟩=>d g H f hf b hgb K) (fun e he f hf b heb hfb=>?_)
 ·rcases hn k ⟨f,hf,hk⟩with⟨g,H,hgk⟩|h
  ·exact(er.mem Y g H).2 k hgk
  ·exact .inl (yY hbl h)
 ·rcases hn b ⟨e,he,heb⟩with⟨g,H,hgb⟩|h
  ·exact d g H f hf b hgb hfb
  ·have:=f.here (er.mem X f hf).1 b hfb
   omega
def an{xs:List Operand}(O1 Or:List OE){t:OI->Ty}{O2:OI->List OE}(hO:O=O1++Or)(hc:ak E.P f=true)(hs:bk E.P f ts O1 t O2)(V:kL E.N G xs ts)(hpost: ∀i,O2 i++Or=post i):
  EffOK E O G ⟨some h3,.call ⟨.value (.func f),xs.toArray,ats⟩,ty,pos,after,g⟩ post t:=fun a w S hsat ho hf K=>by
 subst hO
 obtain rfl:(fun i=>O2 i++Or)=post:=funext hpost
 have hr:(execOp a.eval ⟨some h3,.call ⟨.value (.func f),xs.toArray,ats⟩,ty,pos,after,g⟩).run E.P w= .ok (.enter f (xs.map a.eval).toArray) w:=by
  simp [execOp,resolve,Act.eval,Deferred.ofValue,invoke,iF hc]
 refine⟨fun c h=>(by cases h),?_⟩
 rw [hr]
 exact(hs w S _ hsat (V.tys hf) (qn ho).1.weak).mono fun en w' ⟨i,v,S',he,hv,Y,X,d,h4⟩=>⟨_,he,v,S',i,rfl,Y.more fun b ⟨f,hf,K⟩=>⟨f,DK _ hf,K⟩,X,er.turn ho K Y d h4,hv⟩
def aL{op:Op}{t:OI->Ty}(h:EffOK E O G ⟨some h3,op,ty,pos,after,none⟩ post t)(hd:Nat.blt h3 E.N.n=true)(k: ∀x:OI,RG E ops bx rest (post x) ((h3,t x)::G)):RG E ops bx (⟨some h3,op,ty,pos,after,none⟩::rest) O G:= .of rfl fun a w S st=>
 oV (fun a' w' ⟨v,S',x,ha,V,hs,ho,hv⟩=>by
  subst ha
  exact k x _ _ S' ⟨st.ext.step V fun b ⟨f,hf,K⟩=>(er.mem st.own f hf).2 b K,hs,ho,(st.facts.mono V.keep).put hd hv⟩) (h a w S st.sat st.own st.facts st.base_le)
end

def Lz(σ:Nat->OI)(k:Nat)(x:OI):Nat->OI:=fun j=>bif Nat.beq j k then x else σ j
def HC(σ:Nat->OI){k j:Nat}(x:OI)(h:j≠k):Lz σ k x j=σ j:=by
 have:Nat.beq j k=false:=by
  cases K:Nat.beq j k with
  |false=>rfl
  |true=>exact absurd (pj K) h
 simp [Lz,this]
structure NE where
 slot:Nat
 ty:(Nat->OI)->Ty
 src:Option Nat
def ab2(G:mb)(ts:List (OI->Ty))(n:NE):Prop:=
 match n.src with
 |some j=> ∀σ,(ts[j]?).map (fun f=>f (σ j))=some (n.ty σ)
 |none=> ∀σ,cu G n.slot=some (n.ty σ)
def OU(G:mb)(ts:List (OI->Ty)):List NE->Prop
 |[]=>True
 |n::l=>ab2 G ts n/\OU G ts l
def OU.mem{ts:List (OI->Ty)}: ∀{l:List NE},OU G ts l-> ∀n∈l,ab2 G ts n
 |_::_,⟨h,_⟩,_,.head _=>h
 |_::_,⟨_,h⟩,_,.tail _ hm=>OU.mem h _ hm
def kU(E:En)(ops:Array Oper)(O:List OE)(need:mb)(o:Oper)(post:OI->List OE)(t:OI->Ty):Prop:=
 ∀a w S,mt w S->er E.base E.B w S O->bT E.N S a need->E.base<=w.heap.size->
  if Region.wanted o (yielded ops a.tmps)then J3 E.P o a w (fun a' w' => ∃v S' x,a' =a.put o.dst v/\kh (GU O) w S w' S' /\mt w' S' /\er E.base E.B w' S' (post x)/\(t x).p S' v)
  else∃x,er E.base E.B w S (post x)/\(t x).p S undef
def bY{need:mb}{t:OI->Ty}(H:o.guard=none)(h:EffOK E O need o post t):kU E ops O need o post t:=fun a w S hs ho hf K=>by
 have:Region.wanted o (yielded ops a.tmps)=true:=by unfold Region.wanted;rw [H]
 rw [this,bh rfl]
 exact h a w S hs ho hf K
def hD(es:List Bool)(i:Nat):Nat:=(es.take i).countP (· ==true)
def M2(L:List Oper)(es:List Bool):Bool:=(List.range es.length).all fun i=>(List.range i).all fun j=> !((es[i]?).getD false&&(es[j]?).getD false)||nK L L.length i j
structure DJE(E:En)(G:mb)(l:List Oper)(ts:List (OI->Ty))(Om:Nat->(Nat->OI)->List OE)(es:List Bool)(done:Array Bool)(a:Act)(w:World)(S:SH)(σ:Nat->OI)(c:Nat):Prop where
 ext:kh E.B E.w0 E.S0 w S
 sat:mt w S
 own:er E.base E.B w S (Om c σ)
 size:a.tmps.size=E.N.n
 defers:a.defers=E.N.ds
 dsz:done.size=l.length
 down: ∀j o,l[j]? =some o->done.getD j false=true-> ∀e∈o.after,Region.binds .any e=true->done.getD e.on false=true
 old: ∀k t,cu G k=some t->(∀j o,l[j]? =some o->done.getD j false=true->o.dst≠some k)->t.p S (a.tmps.getD k undef)
 new: ∀j o h3 f,l[j]? =some o->done.getD j false=true->o.dst=some h3->ts[j]? =some f->(f (σ j)).p S (a.tmps.getD h3 undef)
 chain: ∀k,es[k]? =some true->(done.getD k false=true↔hD es k<c)
variable{es:List Bool}
def Fe: ∀{i j:Nat},i<j->es[i]? =some true->hD es i<hD es j:=by
 induction es with
 |nil=>intro i j _ h;simp at h
 |cons e es ih=>
  intro i j hij h
  cases j with
  |zero=>omega
  |succ j=>
   cases i with
   |zero=>simp at h;subst h;simp [hD]
   |succ i=>
    have:=ih (i:=i) (j:=j) (by omega) (by simpa using h)
    cases e<;>simp [hD]at this ⊢ <;>omega
def wz: ∀{c k:Nat},c<hD es k-> ∃i,i<k/\es[i]? =some true/\hD es i=c:=by
 induction es with
 |nil=>intro c k h;simp [hD]at h
 |cons e es ih=>
  intro c k h
  cases k with
  |zero=>simp [hD]at h
  |succ k=>
   cases e with
   |false=>
    obtain⟨i,Y,X,d⟩:=ih (c:=c) (k:=k) (by simpa [hD] using h)
    exact⟨i+1,by omega,by simpa using X,by simpa [hD] using d⟩
   |true=>
    cases c with
    |zero=>exact⟨0,by omega,rfl,by simp [hD]⟩
    |succ c=>
     obtain⟨i,Y,X,d⟩:=ih (c:=c) (k:=k) (by simp [hD]at h ⊢;omega)
     exact⟨i+1,by omega,by simpa using X,by simp [hD]at d ⊢;omega⟩
section
variable{ts:List (OI->Ty)}{Om:Nat->(Nat->OI)->List OE}
end

def Y9(n:Int):Option Unit:=if 0<=n then some ()else none
def EL{n:Int}(h:Y9 n=some u):0<=n:=by
 unfold Y9 at h
 split at h
 ·assumption
 ·cases h
section
variable{ty:TypeId}
def GJ(D:E.P.underlying t=some (.slice e))(V:aJ E.N G x (Z (.slice none 0 0))):cr E O G ⟨dst,.call ⟨.builtin .len,#[x],#[t]⟩,ty,pos,after,g⟩ (tD (rI .i64) (0:Int)):=
 .of_pure fun a w S _ _ hf=>by
  have Y:a.eval x= .slice none 0 0:=V S a hf
  refine⟨.int .i64 0,?_,dK.2 rfl⟩
  simp [execOp,resolve,invoke,builtin,Builtin.len_,jo D,Y,goInt]
def GK(D:E.P.underlying t=some (.slice e))(V:aJ E.N G x (Z (.slice none 0 0))):cr E O G ⟨dst,.call ⟨.builtin .cap,#[x],#[t]⟩,ty,pos,after,g⟩ (tD (rI .i64) (0:Int)):=
 .of_pure fun a w S _ _ hf=>by
  have Y:a.eval x= .slice none 0 0:=V S a hf
  refine⟨.int .i64 0,?_,dK.2 rfl⟩
  simp [execOp,resolve,invoke,builtin,Builtin.cap_,jo D,Y,goInt]
def J4{hi:Operand}(D:E.P.underlying t=some (.slice T))(ti:TI E.P T sz bytes agg z)(V:aJ E.N G x (Z (.slice none 0 0)))(hhi:aJ E.N G hi (tD (rI k) (0:Int))):
  cr E O G ⟨dst,.slice t x none (some hi) none,ty,pos,after,g⟩ (Z (.slice none 0 0)):=
 .of_pure fun a w S _ _ hf=>by
  have Y:a.eval x= .slice none 0 0:=V S a hf
  have h6:=dK.1 (hhi S a hf)
  refine⟨.slice none 0 0,?_,rfl⟩
  have K:=jM (P:=E.P) (w:=w) (k:=k) (n:=(0:Int)) (y:=0) (code:= .sliceAcap) (by omega) (by omega)
  simp [execOp,Instr.sliceAt,Y,h6,Instr.slice,jo D,Instr.sliceBounds,K,jM (k:=k) (n:=(0:Int)) (y:=0) (by omega) (by omega),ti.sizeOf]
end

def vI{α:Type}(n:Int)(z:α):Option (List α):=if 0<=n/\n<=68719476736 then some (List.replicate n.toNat z)else none
def Ct{n:Int}{z:α}(h:vI n z=some zs): ∃m:Nat,n=m/\m<=68719476736/\zs=List.replicate m z:=by
 unfold vI at h
 split at h
 ·rename_i hc;exact⟨n.toNat,by omega,by omega,by simpa using h.symm⟩
 ·cases h
def ve{α:Type}{r:Rp α}{x:α}{z:List Value}(V: ∀S,r.rc S z x)(S:SH): ∀n:Nat,q0 r S (List.replicate n z).flatten (List.replicate n x)
 |0=>rfl
 |n+1=>⟨z,_,by rw [List.replicate_succ,List.flatten_cons],V S,ve V S n⟩
def Et(z:List Value):(List.range z.length).map (fun i=>z[i%z.length]?.getD default)=z:=by
 apply List.ext_getElem?
 intro k
 rcases nS k z.length with h|h
 ·rw [Jf,List.getElem?_range h]
  simp [Nat.mod_eq_of_lt h,h]
 ·rw [DL (by simpa using h),DL h]
def oL(z:List Value)(n:Nat):(Builtin.zeroCells z.toArray n).toList=(List.replicate n z).flatten:=by
 unfold Builtin.zeroCells
 simp
 induction n with
 |zero=>simp
 |succ n ih=>
  rw [List.replicate_succ,List.flatten_cons,<-ih,Nat.succ_mul,Nat.add_comm,List.range_add,List.map_append,Et,List.map_map]
  congr 1
  apply F9
  intro i _
  simp
def vo(z:List Value)(n sz:Nat)(h:z.length=sz):(madeCells z.toArray (n*sz)).toList=(List.replicate n z).flatten:=by
 subst h
 have:=oL z n
 unfold Builtin.zeroCells at this
 unfold madeCells
 simpa using this
section
variable{ty:TypeId}
def flat_len(h:z.length=sz)(n:Nat):(List.replicate n z).flatten.length=n*sz:=by
 simp [h]
def S7{x:α}{n:Int}{y y' :Operand}(ti:TI E.P T sz bytes agg z)(hsz:r.sz=sz)(hz:Nat.beq z.length sz=true)(h128:Nat.ble bytes 2048=true)(D:E.P.underlying t=some (.slice T))(V: ∀S,r.rc S z x)(hy:aJ E.N G y (tD (rI k) n))(hy' :aJ E.N G y' (tD (rI k') n))(h:vI n x=some zs):
  EffOK E O G ⟨some h3,.makeSlice t y y',ty,pos,after,g⟩ (fun i=>dk r T (i.h 0).1 (i.h 0).2 zs::O) (fun i=>Z (au (i.h 0).1 (i.h 0).2 zs.length)):=fun a w S hs ho hf K=>by
 subst hsz
 obtain⟨i,zv,hi,Y,X,d,h4⟩:=ti.get
 obtain⟨m,rfl,hm,rfl⟩:=Ct h
 have hyv:=dK.1 (hy S a hf)
 have hyv' :=dK.1 (hy' S a hf)
 have hz2:z.length=r.sz:=pj hz
 have h128' :=rM h128
 have hbytes:(i.bytes:Int)*(m:Int)<=281474976710656:=by
  have:i.bytes*m<=2048*68719476736:=Nat.mul_le_mul (by omega) hm
  have h5:((i.bytes*m:Nat):Int)<=281474976710656:=by omega
  rwa [Int.natCast_mul]at h5
 have hr:=run_make (P:=E.P) w t T i zv D hi d k k' (m:Int) (m:Int) (by omega) (Int.le_refl _) hbytes (by omega)
 rw [u0,Y,h4]at hr
 obtain⟨he,hs',hno⟩:=jJ (w:=w) (.cells (madeCells z.toArray (m*r.sz)) T (0,0)) hs
 have hrun:(execOp a.eval ⟨some h3,.makeSlice t y y',ty,pos,after,g⟩).run E.P w= .ok (.value (.slice (some ⟨w.heap.size,0,none⟩) m m)) (w.alloc (.cells (madeCells z.toArray (m*r.sz)) T (0,0))):=by
  simp [execOp,hyv,hyv',hr]
 refine⟨fun c h=>(by cases h),?_⟩
 rw [hrun]
 have hfl:=flat_len hz2 m
 refine⟨_,S,oi (some w.heap.size) m,rfl,he.more fun _ K=>K.elim,hs',rG ho he (e:=dk r T (some w.heap.size) m (List.replicate m x)) ⟨(List.replicate m z).flatten,⟨_,xf w _,by simp,by simp only [maxLen];omega,by rw [size_madeCells],?_⟩,ve V S m,fun b K=>by rw [<-qp K];exact hno⟩ (fun b K=>An (qp K)) K,?_⟩
 ·rw [vo z m r.sz hz2,DM]
  exact tS (by omega)
 ·show _=au _ _ _
  rw [DM];rfl
def KN{x:α}{n:Int}{ae y:Operand}{kn:IntKind}(ti:TI E.P T sz bytes agg z)(hsz:r.sz=sz)(hz:Nat.beq z.length sz=true)(h0:Nat.blt 0 sz=true)(h128:Nat.ble bytes 2048=true)(D:E.P.underlying t=some (.slice T))(ht' :E.P.underlying t' =some (.int kn))(V: ∀S,r.rc S z x)(hs' :aJ E.N G ae (Z (.slice none 0 0)))(hy:aJ E.N G y (tD (rI k) n))(hn:0<n)(h:vI n x=some zs):
  EffOK E O G ⟨some h3,.call ⟨.builtin .append,#[ae,y],#[t,t']⟩,ty,pos,after,g⟩ (fun i=>dk r T (i.h 0).1 (i.h 0).2 zs::O) (fun i=>Z (au (i.h 0).1 (i.h 0).2 zs.length)):=fun a w S hs ho hf K=>by
 subst hsz
 obtain⟨i,zv,hi,Y,X,d,h4⟩:=ti.get
 obtain⟨m,rfl,hm,rfl⟩:=Ct h
 have hsv:a.eval ae= .slice none 0 0:=hs' S a hf
 have hyv:=dK.1 (hy S a hf)
 have hz2:z.length=r.sz:=pj hz
 have h128' :=rM h128
 have h0' :0<r.sz:=by simpa [uG] using h0
 have hbytes:m*i.bytes<=281474976710656:=by
  have:m*i.bytes<=68719476736*2048:=Nat.mul_le_mul hm (by omega)
  omega
 have hr:=Lib.run_append_nil_zeros (P:=E.P) w t t' ty T i zv k kn D ht' hi d m (by omega) (by omega) (by omega) hbytes
 have hge:=grownCap_ge w m 0 T
 have hle:=grownCap_le_maxLen w m 0 T (by simp only [maxLen];omega)
 generalize grownCap w m 0 T=cp at hr hge hle
 obtain⟨C,hC⟩: ∃C,Builtin.zeroCells zv.cells m++Builtin.zeroCells zv.cells (cp-m)=C:=⟨_,rfl⟩
 rw [hC]at hr
 obtain⟨he0,hs0⟩:=yl (w:=w) hs
 obtain⟨he,hs2,hno⟩:=jJ (w:=w.drew) (.cells C T (0,0)) hs0
 have hx2:kh tY w S (w.drew.alloc (.cells C T (0,0))) S:=he0.trans he
 have hrun:(execOp a.eval ⟨some h3,.call ⟨.builtin .append,#[ae,y],#[t,t']⟩,ty,pos,after,g⟩).run E.P w= .ok (.value (.slice (some ⟨w.heap.size,0,none⟩) m cp)) (w.drew.alloc (.cells C T (0,0))):=by
  simp [execOp,resolve,invoke,builtin,hsv,hyv,hr]
 refine⟨fun c h=>(by cases h),?_⟩
 rw [hrun]
 have hfl:=flat_len hz2 m
 have hC1:C.toList=(List.replicate m z).flatten++(List.replicate (cp-m) z).flatten:=by
  rw [<-hC,Array.toList_append,h4,oL,oL]
 refine⟨_,S,oi (some w.heap.size) cp,rfl,hx2.more fun _ K=>K.elim,hs2,rG ho hx2 (e:=dk r T (some w.heap.size) cp (List.replicate m x)) ⟨(List.replicate m z).flatten,⟨C,xf w.drew _,by simpa using hge,hle,?_,?_⟩,ve V S m,fun b K=>by rw [<-qp K];exact hno⟩ (fun b K=>An (qp K)) K,?_⟩
 ·have:C.toList.length=cp*r.sz:=by
   rw [hC1,kw,hfl,flat_len hz2,<-w8];congr 1;omega
  simpa using this
 ·rw [hC1,DM,<-hfl,List.take_left]
 ·show _=au _ _ _
  rw [DM];rfl

def Qw{x:α}{y:Operand}(ti:TI E.P T sz bytes agg z)(hsz:r.sz=sz)(hz:Nat.beq z.length sz=true)(D:E.P.underlying t=some (.slice T))(V: ∀S,r.rc S z x)(hone:z.all (·.oneCell')=true)(hs:dV xs lo (xs.length:Int)=some ys)(hy:aJ E.N G y (Z (nE sz l cap lo.toNat ys.length)))(hzs:xs.take lo.toNat++List.replicate ys.length x=zs)(k:RG E ops bx rest (dk r T l cap zs::O) G):
  RG E ops bx (⟨none,.call ⟨.builtin .clear,#[y],#[t]⟩,ty,pos,after,none⟩::rest) (dk r T l cap xs::O) G:= .of rfl fun a w S st=>by
 subst hsz
 subst hzs
 obtain⟨i,zv,hi,Y,X,d,h4⟩:=ti.get
 have hyv:a.eval y=nE r.sz l cap lo.toNat ys.length:=hy S a st.facts
 have hz2:z.length=r.sz:=pj hz
 obtain⟨lo',m,rfl,hm,h5,h6,rfl⟩:=fR hs
 have hm' :m=xs.length:=by omega
 subst hm'
 rw [DB]at hyv k
 rw [u0]at hyv k
 by_cases hnil:xs.drop lo' =[]
 ·have hlo:xs.length<=lo' :=Jd.1 hnil
  rw [hnil]at hyv k
  have e1:xs.take lo' ++List.replicate ([]:List α).length x=xs:=by simp [tS hlo]
  rw [e1]at k
  have hrun:(execOp a.eval ⟨none,.call ⟨.builtin .clear,#[y],#[t]⟩,ty,pos,after,none⟩).run E.P w= .ok (.value (.tuple #[])) w:=by
   cases l<;>simp [execOp,resolve,invoke,builtin,Builtin.clear_,jo D,hyv,nE]
  refine⟨fun c h=>(by cases h),?_⟩
  rw [hrun]
  exact k _ _ S st
 ·obtain⟨⟨cells,hraw,hrc,hno⟩,hbase⟩:=st.own.1
  have hlt:lo' <xs.length:=by
   rcases nS lo' xs.length with h|h
   ·exact h
   ·exact absurd (Fz h) hnil
  cases l with
  |none=>have:=hraw.1;omega
  |some b=>
   obtain⟨cur,g1,g2,g3,g4,g5⟩:=hraw
   have hno' :S b=none:=hno b rfl
   have hne: ¬(cap=lo'):=by omega
   have hld:(xs.drop lo').length=xs.length-lo' :=by simp
   have hfl:=flat_len hz2 (xs.length-lo')
   have hones: ∀u∈(List.replicate (xs.length-lo') z).flatten,u.oneCell' =true:=by
    intro u hu
    obtain⟨q,hq,hu⟩:=List.mem_flatten.1 hu
    rw [(List.mem_replicate.1 hq).2]at hu
    exact kQ.1 hone u hu
   have hmul:xs.length*r.sz<=cur.size:=by rw [g4];exact Ak _ g2
   have hfit:lo' *r.sz+(xs.length-lo')*r.sz=xs.length*r.sz:=by rw [<-w8];congr 1;omega
   have hst:=run_storeCells_at E.P b (lo' *r.sz) T (List.replicate (xs.length-lo') z).flatten 0 cur w g1 (by omega) hones
   simp only [Cn]at hst
   have hrun:(execOp a.eval ⟨none,.call ⟨.builtin .clear,#[y],#[t]⟩,ty,pos,after,none⟩).run E.P w= .ok (.value (.tuple #[])) (w.setRow b (cur.toList.take (lo' *r.sz)++(List.replicate (xs.length-lo') z).flatten++cur.toList.drop (lo' *r.sz+(List.replicate (xs.length-lo') z).flatten.length)).toArray):=by
    have e1: ∃q,xs.length-lo' =q+1:=⟨xs.length-lo' -1,by omega⟩
    obtain⟨q,hq⟩:=e1
    have e2:a.eval y= .slice (some ⟨b,lo' *r.sz,none⟩) (q+1) (cap-lo'):=by rw [hyv,hld,hq];simp [nE,hne]
    rw [hq]at hst ⊢
    simp [execOp,resolve,invoke,builtin,Builtin.clear_,jo D,e2,zeroValue,typeInfo,hi,d,h4,oL,hst]
   refine⟨fun c h=>(by cases h),?_⟩
   rw [hrun]
   have hset:=setRow_heap w b cur (cur.toList.take (lo' *r.sz)++(List.replicate (xs.length-lo') z).flatten++cur.toList.drop (lo' *r.sz+(List.replicate (xs.length-lo') z).flatten.length)).toArray T _ g1
   have hl2:(xs.take lo' ++List.replicate (xs.drop lo').length x).length=xs.length:=by simp;omega
   have hsp:q0 r S (cells.take (lo' *r.sz)) (xs.take lo'):=by
    have e:xs=xs.take lo' ++xs.drop lo' :=(s6 _ _).symm
    rw [e]at hrc
    have:=(qb hrc).1
    rwa [show(xs.take lo').length=lo' from by simp;omega]at this
   have hcl:((cur.toList.take (lo' *r.sz)++(List.replicate (xs.length-lo') z).flatten++cur.toList.drop (lo' *r.sz+(List.replicate (xs.length-lo') z).flatten.length)).toArray).toList.take ((xs.take lo' ++List.replicate (xs.drop lo').length x).length*r.sz)=cells.take (lo' *r.sz)++(List.replicate (xs.length-lo') z).flatten:=by
    rw [hl2,<-g5,Ae,xa (Ak _ (by omega))]
    have hlen1:(cur.toList.take (lo' *r.sz)++(List.replicate (xs.length-lo') z).flatten).length=xs.length*r.sz:=by
     rw [kw,hfl,DA,Cs,xa (by omega)];exact hfit
    rw [<-hlen1,List.take_left]
   obtain⟨q1,q2,q3⟩:=nl (O:=O) st.sat (dk r T (some b) cap xs) (dk r T (some b) cap (xs.take lo' ++List.replicate (xs.drop lo').length x)) st.own (fun k=>⟨fun h=>(qp h).symm,fun h=>by rw [h];rfl⟩) (fun k=>⟨fun h=>(qp h).symm,fun h=>by rw [h];rfl⟩)
    (w' :=w.setRow b (cur.toList.take (lo' *r.sz)++(List.replicate (xs.length-lo') z).flatten++cur.toList.drop (lo' *r.sz+(List.replicate (xs.length-lo') z).flatten.length)).toArray) ⟨rfl,rfl,rfl,by simp [World.setRow],eg _⟩ (fun k hk=>setRow_other w b k _ hk)
    ⟨cells.take (lo' *r.sz)++(List.replicate (xs.length-lo') z).flatten,⟨_,hset,by rw [hl2];exact g2,g3,by simp only [F7,kw,DA,CV,Cs];omega,hcl⟩,by rw [hld];exact rf hsp (ve V S _),fun k hk=>by rw [<-qp hk];exact hno'⟩ hno'
   ·exact k _ _ S ⟨st.ext.step q1 (fun c hc=>hbase c (by rw [hc];rfl)),q2,q3,st.facts⟩
end

def nF{α:Type}(r:Rp α)(n:Nat):Rp (List α) where
 sz:=n*r.sz
 agg:=true
 rc:=fun S cs xs=>xs.length=n/\q0 r S cs xs
 mono:=fun h ⟨Y,X⟩=>⟨Y,rX h X⟩
 len:=fun⟨Y,X⟩=>by rw [kC X,Y]
 one:=fun⟨_,X⟩=>yw X
 sc:=fun h=>by cases h
section
section
variable{ty:TypeId}
def FO{i:Int}(D:E.P.underlying t=some (.array n e))(ti:TI E.P e sz bytes agg z)(hsz:r.sz=sz)(V:aJ E.N G x (df (nF r n) xs))(hi:aJ E.N G ix (tD (rI k) i))(hy:gR xs i=some y):
  cr E O G ⟨dst,.indexAddr t x ix,ty,pos,after,g⟩ (df r y):=
 .of_pure fun a w S _ _ hf=>by
  subst hsz
  obtain⟨b,off,c,T,fr,Y,X,d,h4⟩:=V S a hf
  have h5:a.eval ix= .int k i:=dK.1 (hi S a hf)
  obtain⟨h0,hy'⟩:=ne hy
  have hlt:i.toNat<xs.length:=(sf.1 hy').1
  have hc:0<=i/\i<(n:Int):=⟨h0,by omega⟩
  refine⟨.pointer (some ⟨b,off+i.toNat*r.sz,none⟩),?_,b,_,c,T,fr,rfl,X,?_⟩
  ·simp [execOp,Y,h5,Instr.indexAt,asIntOf,jo D,Instr.sureAddr,hc,ti.sizeOf,jl]
  ·have h6:=AJ h4 hy'
   rw [yZ,Ae,sn]at h6
   have hmul:i.toNat*r.sz+r.sz<=n*r.sz:=by rw [<-Nat.succ_mul];exact Ak _ (by omega)
   have hmin:min r.sz ((nF r n).sz-i.toNat*r.sz)=r.sz:=by
    show min r.sz (n*r.sz-i.toNat*r.sz)=r.sz
    omega
   rwa [hmin]at h6
def jF{i:Int}(D:E.P.underlying t=some (.array n e))(ti:TI E.P e sz bytes agg z)(hm:Q (nF r n) T b xs∈O)(V:aJ E.N G x (Z (M b 0)))(hi:aJ E.N G ix (tD (rI k) i))(hy:gR xs i=some y):
  cr E O G ⟨dst,.indexAddr t x ix,ty,pos,after,g⟩ (Z (M b (i.toNat*sz))):=
 .of_pure fun a w S _ ho hf=>by
  have Y:a.eval x=M b 0:=V S a hf
  have h5:a.eval ix= .int k i:=dK.1 (hi S a hf)
  obtain⟨⟨_,c,_,h4,_⟩,_⟩:=ho.mem _ hm
  obtain⟨h0,hy'⟩:=ne hy
  have hlt:i.toNat<xs.length:=(sf.1 hy').1
  have hc:0<=i/\i<(n:Int):=⟨h0,by omega⟩
  refine⟨_,?_,rfl⟩
  simp [execOp,Y,h5,M,Instr.indexAt,asIntOf,jo D,Instr.sureAddr,hc,ti.sizeOf,jl]
end
def UI{i:Int}(hy:gR xs i=some y){cs:List Value}(h:(nF r n).rc S cs xs):r.rc S ((cs.drop (i.toNat*r.sz)).take r.sz) y:=AJ h.2 (ne hy).2
def AS{i:Int}{p:Operand}{ty:TypeId}(ti:TI E.P U sz bytes agg z)(hsz:r.sz=sz)(hag:r.agg=agg)(hm:Q (nF r n) T b xs∈O)(hy:gR xs i=some y)(hp:aJ E.N G p (Z (M b (i.toNat*r.sz)))):cr E O G ⟨dst,.load U p,ty,pos,after,g⟩ (tD r y):=
 .of_pure fun a w S _ ho hf=>by
  have Y:a.eval p=M b (i.toNat*r.sz):=hp S a hf
  obtain⟨⟨_,cur,h5,h6⟩,_⟩:=ho.mem _ hm
  have h7:=UI hy h6
  refine⟨_,?_,_,rfl,h7⟩
  simp [execOp,Y,M,Instr.loadAt,Instr.sureAddr,k9 ti h5 hsz hag h7]
def yM{v:α}{i:Int}{p:Operand}{ty:TypeId}(ti:TI E.P U sz bytes agg z)(hsz:r.sz=sz)(hy:gR xs i=some y)(hz:xs.set i.toNat v=zs)(hp:aJ E.N G p (Z (M b (i.toNat*r.sz))))(hv:aJ E.N G x (tD r v))(k:RG E ops bx rest (Q (nF r n) T b zs::O) G):RG E ops bx (⟨none,.store U p x,ty,pos,after,none⟩::rest) (Q (nF r n) T b xs::O) G:= .of rfl fun a w S st=>by
 subst hz
 have Y:a.eval p=M b (i.toNat*r.sz):=hp S a st.facts
 obtain⟨ds,X,d⟩:=hv S a st.facts
 obtain⟨⟨hno,cur,h5,h6⟩,_⟩:=st.own.1
 obtain⟨h0,hy'⟩:=ne hy
 have hlt:i.toNat<xs.length:=(sf.1 hy').1
 have hl:=kC h6.2
 simp only [Cs]at hl
 have hmul:i.toNat*r.sz+r.sz<=xs.length*r.sz:=by rw [<-Nat.succ_mul];exact Ak _ hlt
 obtain⟨w',hr,e1,e2,e3,e4,e5,e6⟩:=kc ti hsz d h5 (off:=i.toNat*r.sz) (by omega)
 have hrun:(execOp a.eval ⟨none,.store U p x,ty,pos,after,none⟩).run E.P w= .ok .skip w' :=by
  simp [execOp,Y,X,Instr.storeAt,M,Instr.sureAddr,hr]
 refine⟨fun c h=>(by cases h),?_⟩
 rw [hrun]
 obtain⟨g1,g2,g3⟩:=nl (O:=O) st.sat (Q (nF r n) T b xs) (Q (nF r n) T b (xs.set i.toNat v)) st.own (fun _=>s7) (fun _=>s7) ⟨e1,e2,e3,e4.1,e4.2⟩ e6 ⟨hno,_,e5,by rw [CU];exact h6.1,Dh d h6.2 hlt⟩ hno
 exact k _ _ S ⟨st.ext.step g1 (fun c hc=>st.own.1.2 c hc),g2,g3,st.facts⟩
end
def za{α:Type}{r:Rp α}{c:Value}{x:α}(h: ∀S,r.rc S [c] x)(S:SH): ∀n,q0 r S (List.replicate n c) (List.replicate n x)
 |0=>rfl
 |n+1=>⟨[c],_,rfl,h S,za h S n⟩
def Bp{c:Value}{x:α}(n:Nat)(h: ∀S,r.rc S [c] x): ∀S,(nF r n).rc S (List.replicate n c) (List.replicate n x):=fun S=>⟨DM,za h S n⟩
def XI(n:Nat):Option Unit:=if n<=68719476736 then some ()else none
def gt0(n:Int):Option Unit:=if 0<n then some ()else none
def Sq{n:Int}(h:gt0 n=some u):0<n:=by
 unfold gt0 at h
 split at h
 ·assumption
 ·cases h
def Tz{e:Exit}(mm:Bool)(r:Rp α)(T:TypeId)(h:AT E bx e (mf mm r T none 0 []::O) G):AT E bx e O G:=fun a w S st=>h a w S (st.fresh mm r T)
def Hc{x:α}(h:dV xs lo (xs.length:Int)=some ys)(hz:xs.take lo.toNat++List.replicate ys.length x=zs):zs.length=xs.length:=by
 obtain⟨l,m,rfl,hm,Y,X,rfl⟩:=fR h
 have hm' :m=xs.length:=by omega
 subst hm'
 rw [<-hz]
 simp
 omega

def tC(n:FuncId)(cts:List Ty):Ty where
 p:=fun S v=> ∃cap:List Value,v= .func (.func n) #[] cap.toArray/\w7 S cts cap
 mono:=fun h ⟨cap,e,k⟩=>⟨cap,e,w7.mono h k⟩
section
section
variable{ty:TypeId}
def vk{fid:FuncId}{caps:List Operand}{cts:List Ty}(hcap:kL E.N G caps cts):cr E O G ⟨dst,.makeFunc (.func fid) #[] caps.toArray,ty,pos,after,g⟩ (tC fid cts):=
 .of_pure fun a w S _ _ hf=>⟨.func (.func fid) #[] (caps.map a.eval).toArray,by simp [execOp,Instr.makeFunc],_,rfl,hcap.tys hf⟩
end
def sY{n:FuncId}{cts:List Ty}{ty:TypeId}{fo:Operand}{xs:List Operand}(O1 Or:List OE){t:OI->Ty}{O2:OI->List OE}(hO:O=O1++Or)(hc:ak E.P n=true)(hs:bk E.P n (ts++cts) O1 t O2)(hf:aJ E.N G fo (tC n cts))(V:kL E.N G xs ts)(hpost: ∀i,O2 i++Or=post i):
  EffOK E O G ⟨some h3,.call ⟨.value fo,xs.toArray,ats⟩,ty,pos,after,g⟩ post t:=fun a w S hsat ho hF K=>by
 subst hO
 obtain rfl:(fun i=>O2 i++Or)=post:=funext hpost
 obtain⟨cap,e,hcap⟩:=hf S a hF
 have hr:(execOp a.eval ⟨some h3,.call ⟨.value fo,xs.toArray,ats⟩,ty,pos,after,g⟩).run E.P w= .ok (.enter n ((xs.map a.eval).toArray++cap.toArray)) w:=by
  simp [execOp,resolve,e,Deferred.ofValue,invoke,iF hc]
 refine⟨fun c h=>(by cases h),?_⟩
 rw [hr]
 have e2:(xs.map a.eval).toArray++cap.toArray=((xs.map a.eval)++cap).toArray:=by simp
 rw [e2]
 exact(hs w S _ hsat ((V.tys hF).append hcap) (qn ho).1.weak).mono fun en w' ⟨i,v,S',he,hv,Y,X,d,h4⟩=>⟨_,he,v,S',i,rfl,Y.more fun b ⟨f,hf,K⟩=>⟨f,DK _ hf,K⟩,X,er.turn ho K Y d h4,hv⟩
end

def FT{α:Type}(xs:List α)(lo:Int)(n:Nat)(i:Int):Option α:=if 0<=i/\i<(n:Int)then gR xs (lo+i)else none
def yH{i:Int}(h:FT xs lo n i=some y):0<=i/\i<(n:Int)/\gR xs (lo+i)=some y:=by
 unfold FT at h
 split at h
 ·rename_i hc;exact⟨hc.1,hc.2,h⟩
 ·cases h
def BM(h:dV xs lo hi=some ys):0<=lo:=by
 obtain⟨l,m,rfl,_,_,_,_⟩:=fR h
 omega
section
def qT(hm:mf mm r T l cap xs∈O)(hs:dV xs lo hi=some ys)(h:(l=none->ys.length=0)/\ys.length<=maxLen->RG E ops bx rest O G):RG E ops bx rest O G:=fun a w S st=>by
 refine h ?_ a w S st
 obtain⟨cells,Y,_⟩:=(st.own.mem _ hm).1
 obtain⟨l',m,_,_,_,h8,rfl⟩:=fR hs
 have hlen:((xs.take m).drop l').length<=xs.length:=by simp;omega
 cases l with
 |none=>have:=Y.1;exact⟨fun _=>by omega,by omega⟩
 |some b=>obtain⟨cur,_,g2,g3,_⟩:=Y;exact⟨fun h=>(by cases h),by omega⟩
section
variable{ty:TypeId}
def NX{lo:Nat}(D:E.P.underlying t=some (.slice e))(hv:l=none->n=0)(V:aJ E.N G x (Z (nE sz l cap lo n))):
  cr E O G ⟨dst,.call ⟨.builtin .len,#[x],#[t]⟩,ty,pos,after,g⟩ (tD (rI .i64) (n:Int)):=
 .of_pure fun a w S _ ho hf=>by
  have Y:a.eval x=nE sz l cap lo n:=V S a hf
  obtain⟨ad,c,d⟩: ∃ad c,nE sz l cap lo n= .slice ad n c:=by
   cases l with
   |none=>rw [hv rfl];exact⟨none,0,rfl⟩
   |some b=>exact⟨_,_,rfl⟩
  refine⟨.int .i64 n,?_,dK.2 rfl⟩
  simp [execOp,resolve,invoke,builtin,Builtin.len_,jo D,Y,d,goInt]
def uP{i:Int}(D:E.P.underlying t=some (.slice e))(ti:TI E.P e sz bytes agg z)(hsz:r.sz=sz)(hm:mf mm r U l cap xs∈O)(hl0:0<=lo)(V:aJ E.N G x (Z (nE sz l cap lo.toNat n)))(hi' :aJ E.N G ix (tD (rI k) i))(hy:FT xs lo n i=some y):
  cr E O G ⟨dst,.indexAddr t x ix,ty,pos,after,g⟩ (Z (z6 l ((lo+i).toNat*sz+0))):=
 .of_pure fun a w S _ ho hf=>by
  subst hsz
  have Y:a.eval x=nE r.sz l cap lo.toNat n:=V S a hf
  have d:a.eval ix= .int k i:=dK.1 (hi' S a hf)
  obtain⟨hi0,hin,hxi⟩:=yH hy
  obtain⟨_,hx'⟩:=ne hxi
  obtain⟨b,cur,rfl,_,hle,_⟩:=xx (ho.mem _ hm).1 hx'
  have hlt2:(lo+i).toNat<xs.length:=(sf.1 hx').1
  have hne: ¬(cap=lo.toNat):=by omega
  refine⟨_,?_,rfl⟩
  have hc:0<=i/\i<(n:Int):=⟨hi0,hin⟩
  have e1:(lo+i).toNat=lo.toNat+i.toNat:=by omega
  simp [execOp,Y,d,nE,hne,Instr.indexAt,asIntOf,jo D,hc,ti.sizeOf,jl,z6,M,e1,w8]
end
end

section
variable{ty:TypeId}{l:List Oper}
end

def tZ{κ β:Type} [DecidableEq κ]:List (κ×β)->κ->Option β
 |[],_=>none
 |p::m,k=>if p.1=k then some p.2 else tZ m k
def gw{κ β:Type} [DecidableEq κ]:List (κ×β)->κ->β->List (κ×β)
 |[],k,v=>[(k,v)]
 |p::m,k,v=>if p.1=k then(k,v)::m else p::gw m k v
def La{κ:Type}(P:Program)(kt:TypeId)(kv:κ->Value):Prop:= ∃h3,P.underlying kt=some h3/\(∀a,MapKept.IsKey h3 (kv a))/\ ∀a b,kv a=kv b->a=b
def V9(k:IntKind)(n:Int):Value:= .int k n
def jb{kt:TypeId}(h:P.underlying kt=some (.int k)):La P kt (V9 k):=⟨_,h,fun _=>rfl,fun a b e=>by injection e⟩
structure MV(β:Type) where
 p:World->SH->β->Option Nat×Nat->Value->Prop
 here: ∀{w S y o v},p w S y o v-> ∀j,o.1=some j->j<w.heap.size
 kept: ∀{C w w' S S' y o v},p w S y o v->kh C w S w' S' ->(∀j,o.1=some j-> ¬C j)->p w' S' y o v
def N0{β:Type}(ty:β->Ty):MV β where
 p:=fun _ S y o v=>o.1=none/\(ty y).p S v
 here:=fun h j hj=>by rw [h.1]at hj;cases hj
 kept:=fun h k _=>⟨h.1,(ty _).mono k.keep h.2⟩
section
variable{κ:Type} [DecidableEq κ]{hx:MV β}{kv:κ->Value}{h3:TypeDesc}{k:κ}
def w4(hx:MV β)(kv:κ->Value)(w:World)(S:SH)(h:Option κ):List MapEntry->List (Option Nat×Nat)->List (κ×β)->Prop
 |[],[],[]=>True
 |e::es,o::os,q::m=>e.key=kv q.1/\(if h=some q.1 then o.1=none else hx.p w S q.2 o e.val)/\(∀o' ∈os,∀j,o.1=some j->o'.1≠some j)/\(∀p∈m,p.1≠q.1)/\w4 hx kv w S h es os m
 |_,_,_=>False
def GY{h:Option κ}: ∀{es:List MapEntry} {os:List (Option Nat×Nat)} {m:List (κ×β)},w4 hx kv w S h es os m-> ∀o∈os,∀j,o.1=some j->j<w.heap.size
 |[],[],[],_,o,ho,_,_=>by cases ho
 |e::es,o::os,q::m,⟨_,X,_,_,h5⟩,o',ho,j,hj=>by
  rcases jf.1 ho with rfl|ho
  ·split at X
   ·rw [X]at hj;cases hj
   ·exact hx.here X j hj
  ·exact GY h5 o' ho j hj
def Bg{C:Nat->Prop}(k:kh C w S w' S'){h:Option κ}: ∀{es:List MapEntry} {os:List (Option Nat×Nat)} {m:List (κ×β)},w4 hx kv w S h es os m->(∀o∈os,∀j,o.1=some j-> ¬C j)->w4 hx kv w' S' h es os m
 |[],[],[],_,_=>trivial
 |e::es,o::os,q::m,⟨Y,X,d,h4,h5⟩,hC=>⟨Y,by
  split
  ·rename_i hh;rw [bh hh]at X;exact X
  ·rename_i hh;rw [aR hh]at X;exact hx.kept X k (hC o (nA ..)),d,h4,Bg k h5 fun o' ho=>hC o' (pp _ ho)⟩
def CM{h:Option κ}: ∀{es:List MapEntry} {os:List (Option Nat×Nat)} {m:List (κ×β)},w4 hx kv w S h es os m->(∀p∈m,h≠some p.1)->w4 hx kv w S none es os m
 |[],[],[],_,_=>trivial
 |e::es,o::os,q::m,⟨Y,X,d,h4,h5⟩,hk=>⟨Y,by
  rw [aR (hk q (nA ..))]at X
  rw [aR (by simp)];exact X,d,h4,CM h5 fun p hp=>hk p (pp _ hp)⟩
def sD(hd: ∀a,MapKept.IsKey h3 (kv a))(hi: ∀a b,kv a=kv b->a=b)(a b:κ):Instr.sameNow h3 (kv a) (kv b)=some (decide (a=b)):=by
 obtain⟨r,Y,X⟩:=MapKept.sameNow_of_keys (hd a) (hd b)
 rw [Y]
 by_cases h:a=b
 ·subst h;rw [X.2 rfl];simp
 ·rw [Cq h]
  cases r with
  |false=>rfl
  |true=>exact absurd (hi _ _ (X.1 rfl)) h
def wt(hd: ∀a,MapKept.IsKey h3 (kv a))(hi: ∀a b,kv a=kv b->a=b): ∀{es:List MapEntry} {os:List (Option Nat×Nat)} {m:List (κ×β)} (i:Nat),w4 hx kv w S none es os m->
  ∃os',(∀x∈os',x∈os\/x.1=none)/\w4 hx kv w S (some k) es os' m/\
   ((tZ m k=none/\Instr.findNow h3 (kv k) es i=some none)\/ ∃(y:β) (o:Option Nat×Nat) (e:MapEntry) (j:Nat),tZ m k=some y/\o∈os/\hx.p w S y o e.val/\Instr.findNow h3 (kv k) es i=some (some (j,e.val))/\ ∀x∈os',∀q,o.1=some q->x.1≠some q)
 |[],[],[],i,_=>⟨[],fun x V=>(by cases V),trivial,.inl ⟨rfl,rfl⟩⟩
 |e::es,o::os,q::m,i,⟨Y,X,d,h4,h5⟩=>by
  rw [aR (by simp)]at X
  by_cases hk:q.1=k
  ·refine⟨(none,0)::os,fun x V=>?_,⟨Y,by rw [bh (by rw [hk])],fun _ _ _ hj=>(by cases hj),h4,?_⟩,.inr ⟨q.2,o,e,i,by unfold tZ;rw [bh hk],nA ..,X,?_,fun x V j hj=>?_⟩⟩
   ·rcases jf.1 V with rfl|V
    ·exact .inr rfl
    ·exact .inl (pp _ V)
   ·have: ∀{es:List MapEntry} {os:List (Option Nat×Nat)} {m:List (κ×β)},w4 hx kv w S none es os m->(∀p∈m,p.1≠k)->w4 hx kv w S (some k) es os m:=by
     intro es
     induction es with
     |nil=>intro os m h _;cases os<;>cases m<;>first|trivial|exact h.elim
     |cons e es ih=>
      intro os m h hm
      cases os with
      |nil=>cases m<;>exact h.elim
      |cons o os=>
       cases m with
       |nil=>exact h.elim
       |cons q m=>
        obtain⟨g1,g2,g3,g4,g5⟩:=h
        rw [aR (by simp)]at g2
        exact⟨g1,by rw [aR (fun e=>hm q (nA ..) (qp e).symm)];exact g2,g3,g4,ih g5 fun p hp=>hm p (pp _ hp)⟩
    exact this h5 (fun p hp=>by rw [<-hk];exact h4 p hp)
   ·unfold Instr.findNow
    rw [Y,sD hd hi,hk,decide_eq_true rfl]
   ·rcases jf.1 V with rfl|V
    ·exact fun e=>by cases e
    ·exact d x V j hj
  ·obtain⟨os',g1,g2,g3⟩:=wt hd hi (i+1) h5
   refine⟨o::os',fun x V=>?_,⟨Y,by rw [aR (fun e=>hk (qp e).symm)];exact X,fun o' ho' j hj=>?_,h4,g2⟩,?_⟩
   ·rcases jf.1 V with rfl|V
    ·exact .inl (nA ..)
    ·exact(g1 x V).imp (pp _) id
   ·rcases g1 o' ho' with h|h
    ·exact d o' h j hj
    ·rw [h];exact fun e=>by cases e
   ·have hf:Instr.findNow h3 (kv k) (e::es) i=Instr.findNow h3 (kv k) es (i+1):=by
     conv=>lhs;unfold Instr.findNow
     rw [Y,sD hd hi,Cq (fun e=>hk e.symm)]
    have hm:tZ (q::m) k=tZ m k:=by conv=>lhs;unfold tZ;rw [aR hk]
    rw [hf,hm]
    refine g3.imp id fun⟨y,o1,e1,j,f1,f2,f3,f4,f5⟩=>⟨y,o1,e1,j,f1,pp _ f2,f3,f4,fun x V q hq=>?_⟩
    rcases jf.1 V with rfl|V
    ·exact fun e=>d o1 f2 q e hq
    ·exact f5 x V q hq
def Kf(x:α)(xs:List α)(j:Nat)(f:α->α):(x::xs).modify (j+1) f=x::xs.modify j f:=by simp [List.modify_succ_cons]
def GZ(hd: ∀a,MapKept.IsKey h3 (kv a))(hi: ∀a b,kv a=kv b->a=b){y:β}{o:Option Nat×Nat}{v:Value}{born:Nat}(hv:hx.p w S y o v): ∀{es:List MapEntry} {os:List (Option Nat×Nat)} {m:List (κ×β)} (i:Nat),w4 hx kv w S (some k) es os m->(∀o' ∈os,∀j,o.1=some j->o'.1≠some j)->
    ∃os',(∀x∈os',x∈os\/x=o)/\
      ((∃(j:Nat) (e:MapEntry),Instr.findNow h3 (kv k) es i=some (some (i+j,e.val))/\es[j]? =some e/\e.key=kv k/\w4 hx kv w S none (es.modify j fun e=>{e with key:=kv k,val:=v}) os' (gw m k y))\/
        (Instr.findNow h3 (kv k) es i=some none/\w4 hx kv w S none (es++[⟨kv k,v,born⟩]) os' (gw m k y)))
  |[],[],[],i,_,_=>⟨[o],fun x V=> .inr (zq.1 V),.inr ⟨rfl,⟨rfl,by rw [aR (by simp)];exact hv,fun _ h=>(by cases h),fun _ h=>(by cases h),trivial⟩⟩⟩
  |e::es,o1::os,q::m,i,⟨Y,X,d,h4,h5⟩,ha=>by
    by_cases hk:q.1=k
    · refine⟨o::os,fun x V=>?_,.inl ⟨0,e,?_,rfl,by rw [Y,hk],?_⟩⟩
      · rcases jf.1 V with rfl|V
        · exact .inr rfl
        · exact .inl (pp _ V)
      · unfold Instr.findNow
        rw [Y,sD hd hi,hk,decide_eq_true rfl]
        rfl
      · unfold gw
        rw [bh hk,List.modify_zero_cons]
        exact⟨rfl,by rw [aR (by simp)];exact hv,fun o' ho' =>ha o' (pp _ ho'),fun p hp=>by rw [<-hk];exact h4 p hp,
          CM h5 fun p hp e=>h4 p hp (by rw [hk];exact(qp e).symm)⟩
    · obtain⟨os',g1,g2⟩:=GZ hd hi (born:=born) hv (i+1) h5 fun o' ho' =>ha o' (pp _ ho')
      rw [aR (fun e=>hk (qp e).symm)]at X
      have hf:Instr.findNow h3 (kv k) (e::es) i=Instr.findNow h3 (kv k) es (i+1):=by
        conv=>lhs;unfold Instr.findNow
        rw [Y,sD hd hi,Cq (fun e=>hk e.symm)]
      have hm:gw (q::m) k y=q::gw m k y:=by conv=>lhs;unfold gw;rw [aR hk]
      have hap: ∀o' ∈os',∀j,o1.1=some j->o'.1≠some j:=fun o' ho' j hj=>by
        rcases g1 o' ho' with h|rfl
        · exact d o' h j hj
        · exact fun e=>ha o1 (nA ..) j e hj
      have hne: ∀p∈gw m k y,p.1≠q.1:=by
        have: ∀m:List (κ×β),(∀p∈m,p.1≠q.1)-> ∀p∈gw m k y,p.1≠q.1:=by
          intro m
          induction m with
          |nil=>intro _ p hp;rw [zq.1 hp];exact fun e=>hk e.symm
          |cons p0 m ih=>
            intro hm p hp
            unfold gw at hp
            split at hp
            · rcases jf.1 hp with rfl|hp
              · exact fun e=>hk e.symm
              · exact hm p (pp _ hp)
            · rcases jf.1 hp with rfl|hp
              · exact hm _ (nA ..)
              · exact ih (fun p hp=>hm p (pp _ hp)) p hp
        exact this m h4
      rw [hf,hm]
      refine⟨o1::os',fun x V=>?_,g2.imp (fun⟨j,e',f1,f2,f3,f4⟩=>⟨j+1,e',by rw [f1];congr 3;omega,by simpa using f2,f3,?_⟩) fun⟨f1,f2⟩=>⟨f1,?_⟩⟩
      · rcases jf.1 V with rfl|V
        · exact .inl (nA ..)
        · exact(g1 x V).imp (pp _) id
      · rw [Kf]
        exact⟨Y,by rw [aR (by simp)];exact X,hap,hne,f4⟩
      · exact⟨Y,by rw [aR (by simp)];exact X,hap,hne,f2⟩
def GX{h:Option κ}: ∀{es:List MapEntry} {os:List (Option Nat×Nat)} {m:List (κ×β)},w4 hx kv w S h es os m-> ∀x∈es,∃q∈m,x.key=kv q.1
 |[],[],[],_,x,V=>by cases V
 |e::es,o::os,q::m,⟨Y,_,_,_,h5⟩,x,V=>by
  rcases jf.1 V with rfl|V
  ·exact⟨q,nA ..,Y⟩
  ·obtain⟨q',g1,g2⟩:=GX h5 x V
   exact⟨q',pp _ g1,g2⟩
def Qd(hd: ∀a,MapKept.IsKey h3 (kv a)){h:Option κ}{es:List MapEntry}{os:List (Option Nat×Nat)}{m:List (κ×β)}(h4:w4 hx kv w S h es os m)(g1:Instr.findNow h3 (kv k) es i=some none){x:MapEntry}(V:x∈es):x.key≠kv k:=by
 rcases MapKept.findNow_spec (hd k) es i (fun y hy=>by obtain⟨q,_,e⟩:=GX h4 y hy;rw [e];exact hd _)with⟨_,X⟩|⟨j,e,X,_⟩
 ·exact X x V
 ·rw [g1]at X;cases X
def AY(hx:MV β)(kv:κ->Value)(b:Nat)(h:Option κ)(os:List (Option Nat×Nat))(m:List (κ×β)):OE where
 fp:=fun j=>j=b\/ ∃o∈os,o.1=some j
 p:=fun w S=>S b=none/\(∀o∈os,o.1≠some b)/\ ∃es clock,w.heap[b]? =some (.map es clock)/\w4 hx kv w S h es.toList os m/\MapKept.Stamped es clock
 here:=by
  intro w S ⟨_,_,es,clock,d,h4,_⟩ j hj
  rcases hj with rfl|⟨o,ho,hj⟩
  ·exact(Hu.1 d).1
  ·exact GY h4 o ho j hj
 kept:=by
  intro C w w' S S' ⟨Y,X,es,clock,d,h4,hst⟩ k hC
  have hlt:=(Hu.1 d).1
  exact⟨by rw [k.old b hlt (hC b (.inl rfl))];exact Y,X,es,clock,by rw [k.heap b hlt (hC b (.inl rfl))];exact d,Bg k h4 (fun o ho j hj=>hC j (.inr ⟨o,ho,hj⟩)),hst⟩
def uQ(b:Nat):Value:= .map (some b)
end
section
variable{κ:Type} [DecidableEq κ]{hx:MV β}{kv:κ->Value}{os:List (Option Nat×Nat)}{m:List (κ×β)}{k:κ}{kt et:TypeId}{i v:Operand}{dst:Option Nat}{ty:TypeId}
def OY(N:Fr)(G:mb)(x:Operand)(u:Value):Prop:= ∀S a,bT N S a G->a.eval x=u
def t7{N:Fr}{q:IntKind}{n:Int}(h:aJ N G x (tD (rI q) n)):OY N G x (V9 q n):=fun S a hf=>dK.1 (h S a hf)
def ZV(P:Program)(T:TypeId)(z:Value):Prop:=(P.info? T).bind (·.zero)=some z
def ZV.run{z:Value}(h:ZV P T z)(w:World):(zeroValue T).run P w= .ok z w:=by
 unfold ZV at h
 cases hi:P.info? T with
 |none=>rw [hi]at h;cases h
 |some i=>
  rw [hi]at h
  have h' :i.zero=some z:=h
  simp [zeroValue,typeInfo,hi,h']
def Ff(hx:MV β)(kv:κ->Value)(hd:Nat.blt h3 E.N.n=true)(k: ∀b,RG E ops bx rest (AY hx kv b none [] []::O) ((h3,Z (uQ b))::G)):
  RG E ops bx (⟨some h3,.makeMap t none,ty,pos,after,none⟩::rest) O G:= .of rfl fun a w S st=>by
 obtain⟨he,hs',hno⟩:=jJ (w:=w) (.map #[] 0) st.sat
 have hrun:(execOp a.eval ⟨some h3,.makeMap t none,ty,pos,after,none⟩).run E.P w= .ok (.value (uQ w.heap.size)) (w.alloc (.map #[] 0)):=by
  simp [execOp,Instr.makeMap,uQ]
 refine⟨fun c h=>(by cases h),?_⟩
 rw [hrun]
 exact k w.heap.size _ _ S ⟨st.ext.step0 he,hs',rG st.own he ⟨hno,fun _ h=>(by cases h),#[],0,xf w _,trivial,MapKept.stamped_empty 0⟩ (fun b K=>by
  rcases K with rfl|⟨_,h,_⟩
  ·exact eg _
  ·cases h) st.base_le,st.facts.put hd rfl⟩
def ry{kk:Value}{es:Array MapEntry}{clock:Nat}{q:TypeDesc}{z:Value}{u:Option (Nat×Value)}(hm:P.underlying t=some (.map kt et))(hq:P.underlying kt=some q)(hk:MapKept.IsKey q kk)(K:w.heap[b]? =some (.map es clock))(hz:ZV P et z)(hf:Instr.findNow q kk es.toList 0=some u)(c:Bool):(Instr.lookup t (uQ b) kk c).run P w= .ok (if c then .tuple #[(u.map (·.2)).getD z,.bool u.isSome]else(u.map (·.2)).getD z) w:=by
 cases u with
 |none=>simp [Instr.lookup,uQ,jo hm,Nl K,Nj hq hk,MapKept.run_findKey hq hf,hz.run,Result.andThen]
 |some r=>simp [Instr.lookup,uQ,jo hm,Nl K,Nj hq hk,MapKept.run_findKey hq hf,Result.andThen]
def J8{γ:β->Ty}{z:β}{zv:Value}(hm:E.P.underlying t=some (.map kt et))(hk:La E.P kt kv)(hz:ZV E.P et zv)(hzt: ∀S,(γ z).p S zv)(hmem:AY (N0 γ) kv b none os m∈O)(V:aJ E.N G x (Z (uQ b)))(hi:OY E.N G i (kv k)):
  cr E O G ⟨dst,.lookup t x i true,ty,pos,after,g⟩ (tT [γ ((tZ m k).getD z),tD rB (tZ m k).isSome]):= .of_pure fun a w S hs ho hf=>by
 obtain⟨⟨_,_,es,clock,d,h4,_⟩,_⟩:=er.mem ho _ hmem
 obtain⟨q,hq,hd,hinj⟩:=hk
 have Y:a.eval x=uQ b:=V S a hf
 have X:a.eval i=kv k:=hi S a hf
 obtain⟨_,_,_,h5⟩:=wt hd hinj (k:=k) 0 h4
 rcases h5 with⟨g1,g2⟩|⟨y,o,e,j,g1,g2,g3,g4,g5⟩
 ·refine⟨.tuple #[zv,.bool false],by simp [execOp,Y,X,ry hm hq (hd k) d hz g2],[zv,.bool false],rfl,by rw [g1];exact hzt S,jp.2 (by rw [g1];rfl),trivial⟩
 ·refine⟨.tuple #[e.val,.bool true],by simp [execOp,Y,X,ry hm hq (hd k) d hz g4],[e.val,.bool true],rfl,by rw [g1];exact g3.2,jp.2 (by rw [g1];rfl),trivial⟩
def BO{kk:Value}{es:Array MapEntry}{clock:Nat}{q:TypeDesc}{val:Value}(hm:P.underlying t=some (.map kt et))(hq:P.underlying kt=some q)(hk:MapKept.IsKey q kk)(K:w.heap[b]? =some (.map es clock)):
  (Instr.findNow q kk es.toList 0=some none->(Instr.mapUpdate t (uQ b) kk val).run P w= .ok () {w with heap:=w.heap.setIfInBounds b (.map (es.push ⟨kk,val,clock⟩) (clock+1))})/\
  (∀j e,Instr.findNow q kk es.toList 0=some (some (j,e))->(∀e',es.toList[j]? =some e' ->e'.key=kk)->(∃e',es.toList[j]? =some e')->(Instr.mapUpdate t (uQ b) kk val).run P w= .ok () {w with heap:=w.heap.setIfInBounds b (.map (es.modify j fun e=>{e with key:=kk,val:=val}) clock)}):=by
 refine⟨fun hf=>?_,fun j e hf hj he=>?_⟩
 ·simp [Instr.mapUpdate,uQ,jo hm,Nl K,Nj hq hk,MapKept.run_findKey hq hf,MapKept.run_setObj_map _ K,Result.andThen]
 ·obtain⟨e',he'⟩:=he
  have Y:=hj e' he'
  have X:es[j]? =some e' :=by simpa using he'
  simp [Instr.mapUpdate,uQ,jo hm,Nl K,Nj hq hk,MapKept.run_findKey hq hf,MapKept.run_setObj_map _ K,Result.andThen,X,Y,MapKept.run_keyThatStays hk]
def PQ{y:β}{o:Option Nat×Nat}{val:Value}(hs:mt w S)(hm:E.P.underlying t=some (.map kt et))(hk:La E.P kt kv)(hp:(AY hx kv b (some k) os m).p w S)(hv:hx.p w S y o val)(hob:o.1≠some b)(hap: ∀o' ∈os,∀j,o.1=some j->o'.1≠some j):
  ∃w' os',(Instr.mapUpdate t (uQ b) (kv k) val).run E.P w= .ok () w' /\kh (fun j=>j=b) w S w' S/\mt w' S/\(AY hx kv b none os' (gw m k y)).p w' S/\(∀j,(AY hx kv b none os' (gw m k y)).fp j->(AY hx kv b (some k) os m).fp j\/o.1=some j):=by
 obtain⟨hno,hnb,es,clock,d,h4,hst⟩:=hp
 obtain⟨q,hq,hdk,hinj⟩:=hk
 obtain⟨os',p1,p2⟩:=GZ hdk hinj (born:=clock) hv 0 h4 hap
 have hnb' : ∀o' ∈os',o'.1≠some b:=fun o' ho' =>by
  rcases p1 o' ho' with h|rfl
  ·exact hnb o' h
  ·exact hob
 have hfp: ∀j,(j=b\/ ∃o∈os',o.1=some j)->(j=b\/ ∃o∈os,o.1=some j)\/o.1=some j:=fun j hj=>by
  rcases hj with h|⟨o',ho',e⟩
  ·exact .inl (.inl h)
  ·rcases p1 o' ho' with h|rfl
   ·exact .inl (.inr ⟨o',h,e⟩)
   ·exact .inr e
 have hw: ∀h2:Obj,kh (fun j=>j=b) w S {w with heap:=w.heap.setIfInBounds b h2} S/\mt {w with heap:=w.heap.setIfInBounds b h2} S/\({w with heap:=w.heap.setIfInBounds b h2}:World).heap[b]? =some h2:=fun h2=>
  ⟨⟨rfl,rfl,rfl,eg _,by simp,fun j _ hj=>(MapKept.heap_set (o' :=h2) d).2 j hj,SH.le_refl _,fun _ _ _=>rfl⟩,hs.same fun j o hj=>(MapKept.heap_set (o' :=h2) d).2 j (fun e=>by subst e;rw [hno]at hj;cases hj),(MapKept.heap_set d).1⟩
 obtain⟨r1,r2⟩:=BO (val:=val) hm hq (hdk k) d
 rcases p2 with⟨j,e,g1,g2,g3,g4⟩|⟨g1,g2⟩
 ·rw [uX]at g1
  obtain⟨x1,x2,x3⟩:=hw (.map (es.modify j fun e=>{e with key:=kv k,val:=val}) clock)
  refine⟨_,os',r2 j _ g1 (fun e' he' =>by rw [g2]at he';cases he';exact g3) ⟨_,g2⟩,x1,x2,⟨hno,hnb',_,_,x3,?_,MapKept.stamped_modify hst j _ (fun _ _=>rfl) (fun e' _ he' =>by rw [<-Array.getElem?_toList,g2]at he';cases he';exact g3.symm)⟩,hfp⟩;refine Bg x1 (by rw [Array.toList_modify];exact g4) fun o' ho' j hj e=>?_
  subst e
  exact hnb' o' ho' hj
 ·obtain⟨x1,x2,x3⟩:=hw (.map (es.push ⟨kv k,val,clock⟩) (clock+1))
  refine⟨_,os',r1 g1,x1,x2,⟨hno,hnb',_,_,x3,?_,MapKept.stamped_push hst (fun x V e=>?_)⟩,hfp⟩
  rotate_left
  ·exact Qd hdk h4 g1 V e
  refine Bg x1 (by rw [Array.toList_push];exact g2) fun o' ho' j hj e=>?_
  subst e
  exact hnb' o' ho' hj
end

def zE(tmps:Array Value):ResultVar->Sem Value
 | .tmp t=>pure (tmps.getD t undef)
 | .cell a t=>do loadVar t (<-asAddr (tmps.getD a undef))
def Tn(P:Program)(N:Fr)(G:mb)(rv:ResultVar)(t:Ty):Prop:= ∀a w S,mt w S->bT N S a G-> ∃v,(zE a.tmps rv).run P w= .ok v w/\t.p S v
def gJ{N:Fr}{k:Nat}{t:Ty}(hk:cu G k=some t):Tn P N G (.tmp k) t:=fun a w S _ hf=>⟨_,rfl,hf.at_ k t hk⟩
def th{N:Fr}{k:Nat}{x:α}(ti:TI P T sz bytes agg z)(hsz:r.sz=sz)(hag:r.agg=agg)(hk:cu G k=some (df r x)):Tn P N G (.cell k T) (tD r x):=fun a w S hs hf=>by
 obtain⟨b,off,c,U,fr,Y,X,d⟩:=hf.at_ k _ hk
 obtain⟨c',h4,h5⟩:=hs.part X (r.len d)
 rw [<-h5]at d
 have hl:=k9 ti h4 hsz hag d
 have h1' :a.tmps[k]?.getD undef=Value.pointer (some ⟨b,off,none⟩):=by simpa [Hv] using Y
 exact⟨_,by simp [zE,h1',asAddr,hl],_,rfl,d⟩
def Qu(P:Program)(N:Fr)(G:mb):List ResultVar->List Ty->Prop
 |[],[]=>True
 |rv::rvs,t::ts=>Tn P N G rv t/\Qu P N G rvs ts
 |_,_=>False
def Qu.run{N:Fr}(hs:mt w S)(hf:bT N S a G): ∀{rvs:List ResultVar} {ts:List Ty},Qu P N G rvs ts-> ∃vs,(rvs.mapM (zE a.tmps)).run P w= .ok vs w/\w7 S ts vs/\vs.length=rvs.length
 |[],[],_=>⟨[],rfl,trivial,rfl⟩
 |rv::rvs,t::ts,⟨Y,X⟩=>by
  obtain⟨v,g1,g2⟩:=Y a w S hs hf
  obtain⟨vs,k1,k2,k3⟩:=Qu.run hs hf X
  exact⟨v::vs,by simp [List.mapM_cons,g1,k1,Result.andThen],⟨g2,k2⟩,by simp [k3]⟩
def Dz{rvs:List ResultVar}(hr:fn.results=rvs.toArray)(Y:Nat.beq rvs.length 1=false)(h:Qu P ⟨N,[]⟩ G rvs ts):
  AT ⟨P,⟨N,[]⟩,B,w0,S0,none⟩ (bodyPost P fn (KL ⟨P,⟨N,[]⟩,B,w0,S0,none⟩ (tT ts))) .ret O G:=fun a w S st=>by
 obtain⟨vs,k1,k2,k3⟩:=h.run st.sat st.facts
 have hne: ¬vs.length=1:=by rw [k3];intro e;rw [e]at Y;cases Y
 refine⟨st.facts.defers,.tuple vs.toArray,?_,_,S,rfl,st.ext,st.sat,vs,rfl,k2⟩
 have e1:(fn.results.mapM (zE a.tmps)).run P w= .ok vs.toArray w:=by
  rw [hr,List.mapM_toArray,Sem.run_map,k1]
  rfl
 have e3:results fn a.tmps=((fn.results.mapM (zE a.tmps))>>=fun vs=>pure (if h:vs.size=1 then vs[0]else .tuple vs)):=rfl
 rw [e3,tP,e1]
 simp [Result.andThen,hne]

def Rl{v:Value}(h:(tD (fW r) xs).p S v):(fW r).rc S [v] xs:=by
 obtain⟨cs,e,X⟩:=h
 obtain⟨a,cap,e2,d⟩:=X
 subst e2
 rw [e]
 exact⟨a,cap,rfl,d⟩
section
variable{ty:TypeId}
def nq{r:Rp β}{get:β->Value}{x:β}{p:Operand}(ti:TI E.P U 1 bytes false z)(hget:lC r off rV get)(hm:Q r T b x∈O)(hv:get x=au l cap n)(hp:aJ E.N G p (Z (M b off))):
  cr E O G ⟨dst,.load U p,ty,pos,after,g⟩ (Z (au l cap n)):=(aE (q:=rV) ti rfl rfl hget hm hp).imp fun _ _ h=>by rw [<-hv];exact(yn.1 h).1
def bU{o:Nat}{p:Operand}(hf:bK E.P T i=some (off,sz))(h0:Nat.beq sz 0=false)(hp:aJ E.N G p (Z (M b o)))(he:o+off=n):cr E O G ⟨dst,.fieldAddr T p i,ty,pos,after,g⟩ (Z (M b n)):=by
 subst he
 exact FP hf h0 hp
def rF{q:Rp α}{hx:TypeId}(ho:er base B w S O)(hm:tip q hx l cap xs∈O):(fW q).rc S [au l cap xs.length] xs:=Rl (m8 (ho.mem _ hm).1)
end
def vw{α β γ:Type}(r:Rp α)(r' :Rp γ)(off:Nat)(q:Rp β)(x:α)(y:β)(x' :γ):Prop:= ∀S cs ds,r.rc S cs x->q.rc S ds y->r'.rc S (cs.take off++ds++cs.drop (off+q.sz)) x'
def HR{set:α->β->α}{x:α}{y:β}(h:eV r off q set):vw r r off q x y (set x y):=fun S cs ds Y X=>h S cs x ds y Y X
variable{r' :Rp γ}
def BN{x:α}{y:γ}(hs:r.sz=r'.sz):vw r r' 0 r' x y y:=fun S cs ds Y X=>by
 have hl:=r.len Y
 rw [List.take_zero,m7,Ht (by omega),pM]
 exact X
def pG{β' :Type}{p:Rp α}{q' :Rp β'}{x:α×β}{y:γ}{u:Rp γ}{off' :Nat}{x2:β'}(h:vw q q' off u x.2 y x2)(ho:off' =p.sz+off):vw (cq p q) (cq p q') off' u x y (x.1,x2):=fun S cs ds ⟨a,b,e,Y,X⟩ hd=>by
 have hl:=p.len Y
 have d:=h S b ds X hd
 subst e ho
 refine⟨a,_,?_,Y,d⟩
 have e1:p.sz+off-a.length=off:=by omega
 have e2:p.sz+off+u.sz-a.length=off+u.sz:=by omega
 rw [List.take_append,List.drop_append,tS (by omega),Ht (by omega),e1,e2]
 simp
variable{x' :γ}
def ND{α' β' :Type}{p:Rp α}{p' :Rp α'}{f:β->α}{f' :β' ->α'}{x:β}{x' :β'}{y:γ}{u:Rp γ}{z:α'}(h:vw p p' off u (f x) y z)(e:f' x' =z):vw (mZ p f) (mZ p' f') off u x y x' :=fun S cs ds Y X=>by
 show p'.rc S _ (f' x')
 rw [e]
 exact h S cs ds Y X
section
variable{e:Exit}{ty:TypeId}
def lk{x:α}{y:β}{p v:Operand}(ti:TI E.P U sz bytes agg z)(hsz:q.sz=sz)(hset:vw r r' off q x y x')(hoff:Nat.ble (off+q.sz) r.sz=true)(hp:aJ E.N G p (Z (M b off)))(hv:aJ E.N G v (tD q y))(k:RG E ops bx rest (Q r' T b x' ::O) G):RG E ops bx (⟨none,.store U p v,ty,pos,after,none⟩::rest) (Q r T b x::O) G:= .of rfl fun a w S st=>by
 have Y:a.eval p=M b off:=hp S a st.facts
 obtain⟨ds,X,d⟩:=hv S a st.facts
 obtain⟨⟨hno,cur,h5,h6⟩,_⟩:=st.own.1
 have hl:=r.len h6
 have hoff' :=rM hoff
 obtain⟨w',hr,e1,e2,e3,e4,e5,e6⟩:=kc ti hsz d h5 (off:=off) (by simp at hl;omega)
 have hrun:(execOp a.eval ⟨none,.store U p v,ty,pos,after,none⟩).run E.P w= .ok .skip w' :=by
  simp [execOp,Y,X,Instr.storeAt,M,Instr.sureAddr,hr]
 refine⟨fun c h=>(by cases h),?_⟩
 rw [hrun]
 obtain⟨g1,g2,g3⟩:=nl (O:=O) st.sat (Q r T b x) (Q r' T b x') st.own (fun _=>s7) (fun _=>s7) ⟨e1,e2,e3,e4.1,e4.2⟩ e6 ⟨hno,_,e5,by simpa using hset S _ _ h6 d⟩ hno
 exact k _ _ S ⟨st.ext.step g1 (fun c hc=>st.own.1.2 c hc),g2,g3,st.facts⟩
def St.cvB{x:α}(h: ∀w S cs,er E.base E.B w S O->r.rc S cs x->r'.rc S cs x')(st:St E (Q r T b x::O) G a w S):St E (Q r' T b x' ::O) G a w S:=
 st.own_map fun⟨⟨⟨Y,c,X,d⟩,h4⟩,h5,h6⟩=>⟨⟨⟨Y,c,X,h _ _ _ h6 d⟩,h4⟩,h5,h6⟩
def Ts{x:α}(h: ∀w S cs,er E.base E.B w S O->r.rc S cs x->r'.rc S cs x')(k:RG E ops bx rest (Q r' T b x' ::O) G):RG E ops bx rest (Q r T b x::O) G:=fun a w S st=>k a w S (st.cvB h)
def uW{x:α}(h: ∀w S cs,er E.base E.B w S O->r.rc S cs x->r'.rc S cs x')(k:AT E bx e (Q r' T b x' ::O) G):AT E bx e (Q r T b x::O) G:=fun a w S st=>k a w S (st.cvB h)
end

section
variable{b:Frame}{k:List Item}{cs:List Frame}{F:Fence}
def p6:step P (lone (b.atR a (.code (.scope c)::k)) cs w)= .next (lone (b.atR a (.code c:: .inScope c::k)) cs w):=
 step_lone_go (by simp [stepG,stepG.exec,Frame.atR])
def FE:step P (lone (b.atR a (.inScope c::k)) cs w)= .next (lone (b.atR a k) cs w):=
 step_lone_go (by simp [stepG,stepG.exec,Frame.atR])
def Lu(h:c.wpIn F n P (Exit.noGoto bx) a w):(Code.scope c).wpIn F n P bx a w:=by
 intro b k cs hro K hr
 have h0:(lone (b.atR a (.code (.scope c)::k)) cs w).fenced P F:=fenced_calm K hr rfl
 obtain⟨e,a₁,w₁,hq,harr⟩:=h b (.inScope c::k) cs hro K hr
 cases e with
 |normal=>exact⟨.normal,a₁,w₁,hq,.head h0 p6 (StepsIn.trans harr (.one (fenced_calm K hr rfl) FE))⟩
 |exit id=>
  have V:exitTo id (.inScope c::k)=exitTo id k:=by simp [exitTo]
  exact⟨.exit id,a₁,w₁,hq,fun k' hk=> .head h0 p6 (harr.1 k' (by rw [V];exact hk)),
   fun hr' hk=>let⟨k₁,Y,X⟩:=harr.2 hr' (by rw [V];exact hk);⟨k₁,Y,.head h0 p6 X⟩⟩
 |goto l=>exact hq.elim
 |ret=>exact⟨_,a₁,w₁,hq,.of_steps (.one h0 p6) harr⟩
 |panic ch=>exact⟨_,a₁,w₁,hq,.of_steps (.one h0 p6) harr⟩
 |outgrown=>exact⟨_,a₁,w₁,hq,.of_steps (.one h0 p6) harr⟩
end
section
def Fu(h:CG E (Exit.noGoto bx) c O G):CG E bx (.scope c) O G:=fun a w S st=>Lu (h a w S st)
def Fv{l:Nat}(h:AT E bx .normal O G):CG E bx (.label l) O G:=fun a w S st=>wpIn_label (h a w S st)
def qo(h:AT E bx .ret O G):AT E (Exit.noGoto bx) .ret O G:=h
end

def Iw [Inhabited α](h:i<m):lC (nF r m) (i*r.sz) r (fun x=>(x[i]?).getD default):=fun S cs x ⟨Y,X⟩=>by
 have hi:x[i]? =some ((x[i]?).getD default):=by rw [tM (by omega)];rfl
 exact AJ X hi
def Ox [DecidableEq α] [Inhabited α]{t e:Nat}(D:P.underlying t=some (.array m e))(ti:TI P e sz bytes agg z)(hsz:r.sz=sz)(hag:r.agg=agg)(he:lu P e r n):lu P t (nF r m) (n+1):=fun S cs ds x y h3 w V hy=>by
 obtain⟨i,zv,hi,hs,_⟩:=ti.get
 have hcell:P.cellsOf e=r.sz:=by unfold Program.cellsOf;rw [hi];simp [hs,hsz]
 have e1:(nF r m).val cs= .agg cs.toArray:=rfl
 have e2:(nF r m).val ds= .agg ds.toArray:=rfl
 rw [e1,e2,show h3+(n+1)=(h3+n)+1 from rfl,run_equalIn_array w (h3+n) cs.toArray ds.toArray D hi,List.range_eq_range',hcell]
 have key: ∀k j,j+k=m->(Op.eqItems (h3+n) e r.sz cs.toArray ds.toArray (List.range' j k)).run P w= .ok (decide (x.drop j=y.drop j)) w:=by
  intro k
  induction k with
  |zero=>
   intro j hj
   rw [Ht (by have:=V.1;omega),Ht (by have:=hy.1;omega)]
   rfl
  |succ k ih=>
   intro j hj
   have hjx:j<x.length:=by have:=V.1;omega
   have hjy:j<y.length:=by have:=hy.1;omega
   have Y:=sE ti hsz hag (Iw (r:=r) (m:=m) (i:=j) (by omega)) V w
   have X:=sE ti hsz hag (Iw (r:=r) (m:=m) (i:=j) (by omega)) hy w
   have d:=he S _ _ _ _ h3 w (Iw (r:=r) (m:=m) (i:=j) (by omega) S cs x V) (Iw (r:=r) (m:=m) (i:=j) (by omega) S ds y hy)
   rw [List.range'_succ]
   unfold Op.eqItems
   simp only [tP,Y,X,d,u3]
   have ex:x.drop j=(x[j]?).getD default::x.drop (j+1):=by rw [tM hjx];exact BE hjx
   have ey:y.drop j=(y[j]?).getD default::y.drop (j+1):=by rw [tM hjy];exact BE hjy
   rw [ex,ey]
   by_cases hq:(x[j]?).getD default=(y[j]?).getD default
   ·simp only [hq,decide_true,sm,nV,lD]
    rw [ih (j+1) (by omega)]
    congr 1
    simp
   ·simp [hq]
 have:=key m 0 (by omega)
 simpa using this
section
variable{ty:TypeId}
def sS{xs:List Operand}{sz' bytes' :Nat}{agg' :Bool}{z' :List Value}(D:E.P.underlying t=some (.array m T))(ti:TI E.P T sz bytes agg z)(hsz:r.sz=sz)(tj:TI E.P t sz' bytes' agg' z')(hz:z'.length=m*r.sz)(hm:m=ys.length)(V:kL E.N G xs (ys.map (tD r))):cr E O G ⟨dst,.build t (zj 0 xs).toArray,ty,pos,after,g⟩ (tD (nF r m) ys):=
 .of_pure fun a w S _ _ hF=>by
  obtain⟨zv,hzr,hzc⟩:=tj.zero w
  obtain⟨cs,hc,hfill⟩:=EV ys (xs.map a.eval) 0 [] z' (V.tys hF) (by simp) (by rw [hz,hm])
  subst hsz
  have hparts:((zj 0 xs).toArray.map fun(i,x)=>(i,a.eval x)).toList=CL 0 (xs.map a.eval):=by simpa using Cb a.eval 0 xs
  rw [m7,m7]at hfill
  refine⟨.agg cs.toArray,?_,cs,rfl,hm.symm,hc⟩
  simp only [execOp,Instr.build,tP,hzr,u3,jo D,ti.sizeOf,hzc,hparts,hfill]
  simp
end
end Go.Proofs.YtdohlidddcgfjaaGreat

