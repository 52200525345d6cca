/- bR of this claim: W14, W16, W17, W18, W19, W20, W22, W23, W24, W25, W26, W28, W30, W31, W32. -/
import Derived.Test.YtdohlidddcgfjaaGreatFbV1
import Derived.RangeFuncRecord
import Derived.RangeFuncLeaves
import Derived.Laws.StructEq
import Derived.Lib.ConvBytes
import Derived.Lib.AppendZeros
import Derived.Laws.MakeOwn
import Derived.MapKept
import Derived.Scope
import Derived.ChangeKeysEq
set_option linter.all false
namespace Go.Proofs.YtdohlidddcgfjaaGreat
open Go

variable{S:SH}{a:Act}{b:Nat}{e:TypeId}{α β:Type}{k:IntKind}{q:Rp β}{x:Operand}{y:α}
def cx{p:Rp α}:eE (dg p q) 0 p (fun x y=>(y,x.2)):=fun S cs x ds y h k=>by
 obtain⟨a,b,e,Y,H⟩:=h
 have hl:=p.len Y
 refine⟨ds,b,?_,k,H⟩
 rw [e,<-hl];simp
variable{off:Nat}{γ:Type}{ae:Rp γ}{u:Unit}
def aw{p:Rp α}{off' :Nat}{u:β->γ->β}(h:eE q off ae u)(ho:off' =p.sz+off):eE (dg p q) off' ae (fun x y=>(x.1,u x.2 y)):=fun S cs x ds y V hy=>by
 obtain⟨a,b,e,Y,H⟩:=V
 have hl:=p.len Y
 refine⟨a,b.take off++ds++b.drop (off+ae.sz),?_,Y,h S b x.2 ds y H hy⟩
 rw [e,ho,<-hl,List.take_length_add_append,show a.length+off+ae.sz=a.length+(off+ae.sz)from by omega,List.drop_length_add_append]
 simp
variable{f:FuncId}
def bI{p:Rp α}{q:Rp γ}{u:α->γ->α}{f:β->α}{set:β->γ->β}(h:eE p off q u)(hf: ∀x y,f (set x y)=u (f x) y):eE (qc p f) off q set:=fun S cs x ds y V hy=>by
 show p.rc S _ (f (set x y))
 rw [hf]
 exact h S cs (f x) ds y V hy
def hY(P:Program)(T:TypeId):Option (List (Nat×Nat)):=
 match P.underlying T with
 |some (.struct fs)=>fs.toList.mapM fun f=>(P.info? f.type).map fun q=>(f.offset,q.size)
 |_=>none
variable{P:Program}{w:World}
def A7{P:Program}: ∀(fs:List Field) (ps:List (Nat×Nat)) (w:World),fs.mapM (fun f=>(P.info? f.type).map fun q=>(f.offset,q.size))=some ps->
  (fs.mapM (fun f=>do pure (f.offset,<-sizeOf f.type):Field->Sem (Nat×Nat))).run P w= .ok ps w
 |[],ps,w,h=>by
  simp at h;subst h
  simp
 |f::fs,ps,w,h=>by
  simp only [List.mapM_cons]at h ⊢
  cases hq:P.info? f.type with
  |none=>simp [hq]at h
  |some q=>
   cases hr:fs.mapM (fun f=>(P.info? f.type).map fun q=>(f.offset,q.size))with
   |none=>simp [hq,hr]at h
   |some qs=>
    simp [hq,hr]at h
    subst h
    have ih:=A7 fs qs w hr
    simp [sizeOf,typeInfo,hq]at ih ⊢
    simp [ih]
variable{E:En}{G:kN}{O:List OE}{T:TypeId}{after:Array Edge}{agg:Bool}{bytes:Nat}{c:Code}{dst:Option Tmp}{g:Option (Nat×Bool)}{i:Nat}{l:Option Nat}{o:Oper}{pos:String}{r:Rp α}{rest:List Oper}{sz:Nat}{z:List Value}
section
variable{ty:TypeId}
def BP(E:En)(G:kN){α:Type}(r:Rp α)(ps:List (Nat×Nat)):α->List (Nat×Operand)->α->Prop
 |x,[],y=>x=y
 |x,(i,o)::rest,y=> ∃(β:Type) (q:Rp β) (set:α->β->α) (off:Nat) (v:β),ps[i]? =some (off,q.sz)/\eE r off q set/\Nat.ble (off+q.sz) r.sz=true/\aI E.N G o (tD q v)/\BP E G r ps (set x v) rest y
def BB{α:Type}{r:Rp α}{ps:List (Nat×Nat)}{S:SH}{a:Act}(hF:bR E.N S a G): ∀(parts:List (Nat×Operand)) (x y:α) (cs:List Value),BP E G r ps x parts y->r.rc S cs x->
  ∃ds,r.rc S ds y/\Instr.fill (ps.toArray[·]?) cs.toArray (parts.map fun p=>(p.1,a.eval p.2))=some ds.toArray
 |[],x,y,cs,h,V=>by
  have e:x=y:=h
  subst e
  exact⟨cs,V,rfl⟩
 |(i,o)::rest,x,y,cs,⟨β,q,set,off,v,Y,H,Q,h4,h5⟩,V=>by
  obtain⟨c,hv,hc⟩:=h4 S a hF
  have hl:=q.len hc
  have hlr:=r.len V
  have h3' :=pN Q
  have hcells:(a.eval o).cells=c.toArray:=by rw [hv];exact sI hc
  obtain⟨ds,h6,h7⟩:=BB hF rest _ y _ h5 (H S cs x c v V hc)
  refine⟨ds,h6,?_⟩
  have hps:ps.toArray[i]? =some (off,q.sz):=by simpa using Y
  have hs:(a.eval o).cells.size=q.sz:=by rw [hcells];simpa using hl
  have h8:=xD (a.eval o) off (cs.take off) ((cs.drop off).take q.sz) (cs.drop (off+q.sz)) (by rw [hs];simp;omega) (by simp;omega)
  have e1:cs.take off++(cs.drop off).take q.sz++cs.drop (off+q.sz)=cs:=by
   rw [oB,<-sa,qL,qL]
  rw [e1]at h8
  simp only [AA,Instr.fill,hps]
  rw [aZ (by simp [hs,hlr];omega),h8,hcells]
  simpa using h7
def eh{x:α}{parts:List (Nat×Operand)}{ps:List (Nat×Nat)}(ti:TI E.P T sz bytes agg z)(hp:hY E.P T=some ps)(hz: ∀S,r.rc S z x)(W:BP E G r ps x parts y)(ha:r.agg=true:=by rfl):
  b9 E O G ⟨dst,.build T parts.toArray,ty,pos,after,g⟩ (tD r y):=
 .of_pure fun a w S _ _ hF=>by
  obtain⟨zv,hzr,hzc⟩:=ti.zero w
  obtain⟨ds,Y,H⟩:=BB hF parts x y z W (hz S)
  unfold hY at hp
  split at hp
  ·rename_i fs hu
   have hpl:=A7 fs.toList ps w hp
   have hpl2:(fs.mapM (fun f=>do pure (f.offset,<-sizeOf f.type):Field->Sem (Nat×Nat))).run E.P w= .ok ps.toArray w:=by
    have hfs:fs=fs.toList.toArray:=by simp
    generalize fs.toList=l at hfs hpl
    subst hfs
    rw [List.mapM_toArray,Sem.run_map,hpl]
    rfl
   refine⟨.agg ds.toArray,?_,ds,(qk ha ds).symm,Y⟩
   simp only [execOp,Instr.build,rl,hzr,sF,iv hu,hpl2,hzc]
   have hm:(parts.toArray.map fun(i,x)=>(i,a.eval x)).toList=parts.map fun p=>(p.1,a.eval p.2):=by simp
   rw [hm,H]
   simp
  ·cases hp
end
variable{B:Nat->Prop}{N:Nat}{S0:SH}{U:TypeId}{fn:Func}{w0:World}
section
def Hf{k:Nat}{x:α}(hr:fn.results= #[.cell k T])(ti:TI P T sz bytes agg z)(hsz:r.sz=sz)(hag:r.agg=agg)(hk:b8 G k=some (cH r x)):
  AT ⟨P,⟨N,[]⟩,B,w0,S0,none⟩ (bodyPost P fn (GM ⟨P,⟨N,[]⟩,B,w0,S0,none⟩ (tD r x))) .ret O G:=fun a w S st=>by
 obtain⟨b,off,c,U,fr,Y,H,Q⟩:=st.facts.at_ k _ hk
 obtain⟨c',h4,h5⟩:=st.sat.part H (r.len Q)
 rw [<-h5]at Q
 refine⟨st.facts.defers,r.val ((c'.toList.drop off).take r.sz),?_,_,S,rfl,st.ext,st.sat,_,rfl,Q⟩
 have hl:=jF ti h4 hsz hag Q
 have h1' :a.tmps[k]?.getD undef=Value.pointer (some ⟨b,off,none⟩):=by simpa [Ea] using Y
 simp [results,hr,h1',asAddr,hl]
end

def mo(L:List Oper):Nat->Nat->Nat->Bool
 |0,_,_=>false
 |n+1,i,j=>match L[i]? with
  |some o=>o.after.toList.any fun e=>Region.binds .any e&&(Nat.beq e.on j||mo L n e.on j)
  |none=>false
def tU(L:List Oper)(m:Nat):Bool:=(List.range m).all fun j=>mo L L.length m j
def wm(L:List Oper)(n k:Nat):Bool:=(List.range k).all fun m=>tU L (n+m)&&(match L[n+m]? with|some o=>dK (n+m) o&&o.guard.isNone|none=>false)
variable{L:List Oper}{done:Array Bool}{hi j:Int}{n:Nat}
def fz{L:List Oper}{done:Array Bool}(down: ∀j o,L[j]? =some o->done.getD j false=true-> ∀e∈o.after,Region.binds .any e=true->done.getD e.on false=true):
  ∀(n i j:Nat),(∀o,L[i]? =some o-> ∀e∈o.after,Region.binds .any e=true->done.getD e.on false=true)->mo L n i j=true->done.getD j false=true
 |0,_,_,_,h=>by cases h
 |n+1,i,j,hi,h=>by
  unfold mo at h
  cases ho:L[i]? with
  |none=>rw [ho]at h;cases h
  |some o=>
   rw [ho]at h
   obtain⟨e,he0,W⟩:=Aw.1 h
   have he:e∈o.after:=by simpa using he0
   rw [iO,xn]at W
   have hd:=hi o ho e he W.1
   rcases W.2 with Y|Y
   ·rw [<-nk Y];exact hd
   ·exact fz down n e.on j (fun p hp=>down e.on p hp hd) Y
variable{S' :SH}{aN:Nat}{t:TypeId}{ts:List Ty}{w' :World}
def DJ.stepT{l:List Oper}(h:DJ E O G l ts done a w S){t:Ty}{v:Value}(hi:l[i]? =some o)(hd:o.dst=some aN)(hdN:aN<E.N.n)(hs2: ∀j p,l[j]? =some p->done.getD j false=true->p.dst=some aN->i=j)(hwait: ∀e∈o.after,Region.binds .any e=true->done.getD e.on false=true)(D:ts[i]? =some t)(hun:done.getD i true=false)(hext:jc rn w S w' S')(hsat:kV w' S')(hv:t.p S' v):DJ E O G l ts (done.setIfInBounds i true) (a.put o.dst v) w' S' :=by
 have hda:aN<a.tmps.size:=by rw [h.size];exact hdN
 have hlt:i<done.size:=by rw [h.dsz];exact(pZ.1 hi).1
 have hset: ∀j,(done.setIfInBounds i true).getD j false=true->j=i\/done.getD j false=true:=fun j hj=>by
  by_cases hij:i=j
  ·exact .inl hij.symm
  ·rw [ub false hij]at hj;exact .inr hj
 have hseti:(done.setIfInBounds i true).getD i false=true:=by simp [hlt]
 have hun' :done.getD i false=false:=by simp [hlt]at hun ⊢;exact hun
 refine⟨h.ext.step0 hext,hsat,h.own.ext0 hext,?_,?_,by simp [h.dsz],fun j p hj hdone e he W=>?_,fun k u hk hno=>?_,fun j p d' u hj hdone hd' hu=>?_⟩
 ·rw [hd];simp [Act.put,h.size]
 ·rw [hd];exact h.defers
 ·rcases hset j hdone with rfl|hj'
  ·rw [hi]at hj
   have:o=p:=by simpa using hj
   subst this
   exact vW (hwait e he W)
  ·exact vW (h.down j p hj hj' e he W)
 ·have hne:aN≠k:=fun e=>hno i o hi hseti (by rw [hd,e])
  rw [hd,rA hda,aZ hne]
  exact u.mono hext.keep (h.old k u hk fun j p hj hdone=>hno j p hj (vW hdone))
 ·rw [hd,rA hda]
  rcases hset j hdone with rfl|hj'
  ·rw [hi]at hj
   have:o=p:=by simpa using hj
   subst this
   rw [hd]at hd'
   have:aN=d' :=by simpa using hd'
   subst this
   rw [bu rfl]
   rw [D]at hu
   have:t=u:=by simpa using hu
   subst this
   exact hv
  ·have hne:aN≠d' :=fun e=>by
    subst e
    have:=hs2 j p hj hj' hd'
    subst this
    rw [hj']at hun';cases hun'
   rw [aZ hne]
   exact u.mono hext.keep (h.new j p d' u hj hj' hd' hu)
def m9(h:i<done.size):done.getD i true=done.getD i false:=by simp [h]
def ru(h:kC done=0)(hi:i<done.size):done.getD i false=true:=by
 unfold kC at h
 rw [List.countP_eq_zero]at h
 have H:done[i]∈done.toList:=by simp
 have:=h _ H
 rw [<-m9 hi]
 simpa [hi] using this
variable{h3:Exit->Act->World->Prop}{m:Nat}{xs:List α}
def wH{r:Option Nat}(hc: ∀m o,n<=m->L[m]? =some o->tU L m=true)(hedge: ∀m o,L[m]? =some o->dK m o=true):
  ∀(rest:List Oper) (m:Nat) (done:Array Bool) (fuel:Nat) (a:Act) (w:World),n<=m->L.drop m=rest->done.size=L.length->(∀j,j<L.length->(done.getD j false=true↔j<m))->kC done=fuel->
   wpListIn (fw r) 0 P L.toArray h3 rest a w->wpAnyIn (fw r) 0 P .any L.toArray h3 fuel done a w:=by
 intro rest
 induction rest with
 |nil=>
  intro m done fuel a w hnm hdrop hsz hdone hu h
  have hlen:L.length<=m:=CU.1 hdrop
  have hr:Region.ready .any L.toArray done=[]:=by
   cases hr:Region.ready .any L.toArray done with
   |nil=>rfl
   |cons i r=>
    have hm:i∈Region.ready .any L.toArray done:=by rw [hr];exact nV ..
    obtain⟨hun,o,ho,_⟩:=qN.1 hm
    have hi:i<L.length:=by simpa using (D9.1 ho).1
    have:=(hdone i hi).2 (by omega)
    rw [m9 (by omega)]at hun
    rw [hun]at this;cases this
  cases fuel with
  |zero=>exact⟨hr,h⟩
  |succ f=>exact⟨fun _=>h,fun i hi=>by rw [hr]at hi;cases hi⟩
 |cons o rest ih=>
  intro m done fuel a w hnm hdrop hsz hdone hu h
  have hm:m<L.length:=by
   rcases m0 m L.length with h' |h'
   ·exact h'
   ·rw [CU.2 h']at hdrop;cases hdrop
  have hLm:L[m]? =some o:=by
   have:=tk (xs:=L) (i:=m) (j:=0)
   rw [hdrop]at this
   simpa using this.symm
  have hmu:done.getD m true=false:=by
   have hnot: ¬(done.getD m false=true):=fun H=>by have:=(hdone m hm).1 H;omega
   rw [m9 (by omega)]
   exact yH _▸hnot
  have honly: ∀i∈Region.ready .any L.toArray done,i=m:=by
   intro i hi
   obtain⟨hun,p,hp,hwait⟩:=qN.1 hi
   have hp' :L[i]? =some p:=by simpa using hp
   have hil:i<L.length:=(pZ.1 hp').1
   have hid: ¬i<m:=fun hlt=>by
    have H:=(hdone i hil).2 hlt
    rw [m9 (by omega)]at hun
    rw [hun]at H;cases H
   rcases m0 m i with hlt|hge
   ·exfalso
    have hcov:=hc i p (by omega) hp'
    unfold tU at hcov
    have hre:=me.1 hcov m (by simpa using hlt)
    have:done.getD m false=true:=by
     refine fz (L:=L) (done:=done) (fun j q hj hjd e he W=>?_) _ i m (fun q hq e he W=>?_) hre
     ·have hjl:j<L.length:=(pZ.1 hj).1
      have hjm:=(hdone j hjl).1 hjd
      have:=hedge j q hj
      unfold dK at this
      have:=me.1 this e (by simpa using he)
      simp only [W,qK,sy,r0]at this
      exact(hdone e.on (by omega)).2 (by omega)
     ·have:q=p:=by rw [hp']at hq;simpa using hq.symm
      subst this
      exact hwait e he W
    have:=(hdone m hm).1 this
    omega
   ·omega
  have hready:m∈Region.ready .any L.toArray done:=by
   rw [qN]
   refine⟨hmu,o,by simpa using hLm,fun e he W=>?_⟩
   have:=hedge m o hLm
   unfold dK at this
   have:=me.1 this e (by simpa using he)
   simp only [W,qK,sy,r0]at this
   exact(hdone e.on (by omega)).2 this
  cases fuel with
  |zero=>
   have:=ru hu (i:=m) (by omega)
   have:=(hdone m hm).1 this
   omega
  |succ fuel=>
   refine⟨fun hr=>(by rw [hr]at hready;cases hready),fun i hi=>?_⟩
   have:=honly i hi
   subst this
   have hnext:=fun a w=>ih (i+1) (done.setIfInBounds i true) fuel a w (by omega) (by rw [<-sa,hdrop];rfl) (by simpa using hsz) (fun j hj=>by
    by_cases hij:i=j
    ·subst hij;have:i<done.size:=by omega
     simp [this]
    ·rw [ub false hij,hdone j hj];omega) (by have:=pb hmu;omega)
   unfold wpOpIn
   have hLm' :L.toArray[i]? =some o:=by simpa using hLm
   rw [hLm']
   show if _ then _ else _
   unfold wpListIn at h
   by_cases hw:Region.wanted o (yielded L.toArray a.tmps)=true
   ·rw [bu hw]at h ⊢;exact Oper.wpIn_mono (fun a w hk=>hnext a w hk) h
   ·rw [aZ hw]at h ⊢;exact⟨h.1,hnext _ _ h.2⟩
def Fw{l t:List Oper}(hsl:tu E.N.n [] l=true)(hlen:ts.length=l.length)(hd:DR E O G (l++t) ts 0 l)(D:wm (l++t) l.length t.length=true)(hQ: ∀a w S,St E O (Ia l ts G) a w S->wpListIn (fw E.r) 0 E.P (l++t).toArray h3 t a w):
  ∀(fuel:Nat) (done:Array Bool) (a:Act) (w:World) (S:SH),kC done=fuel->(∀j,l.length<=j->done.getD j false=false)->DJ E O G (l++t) ts done a w S->wpAnyIn (fw E.r) 0 E.P .any (l++t).toArray h3 fuel done a w:=by
 have hL1: ∀i o,i<l.length->(l++t)[i]? =some o->l[i]? =some o:=fun i o hi h=>by rwa [xv hi]at h
 have hL2: ∀i o,l[i]? =some o->(l++t)[i]? =some o:=fun i o h=>by rw [xv (pZ.1 h).1];exact h
 have htail: ∀m o,l.length<=m->(l++t)[m]? =some o->tU (l++t) m=true/\dK m o=true:=fun m o hm ho=>by
  have hml:m<(l++t).length:=(pZ.1 ho).1
  rw [kO]at hml
  unfold wm at D
  have:=me.1 D (m-l.length) (by simp;omega)
  rw [show l.length+(m-l.length)=m from by omega,ho]at this
  simp only [iO]at this
  exact⟨this.1,this.2.1⟩
 have hedge: ∀i o,(l++t)[i]? =some o->dK i o=true:=fun i o hi=>by
  rcases m0 i l.length with h|h
  ·obtain⟨_,_,_,_,_,h,_⟩:=DR.get l 0 hd i o (hL1 i o h hi)
   simpa using h
  ·exact(htail i o h hi).2
 obtain⟨hs1,hs2⟩:=uH l [] hsl
 have fin: ∀fuel done a w S,kC done=fuel->(∀j,l.length<=j->done.getD j false=false)->DJ E O G (l++t) ts done a w S->(∀i,i<l.length->done.getD i false=true)->wpAnyIn (fw E.r) 0 E.P .any (l++t).toArray h3 fuel done a w:=by
  intro fuel done a w S hu hfree h hall
  refine wH (n:=l.length) (fun m o hm ho=>(htail m o hm ho).1) hedge t l.length done fuel a w (jW _) (by simp) h.dsz (fun j hj=>⟨fun hjd=>?_,fun hlt=>hall j hlt⟩) hu
   (hQ a w S ⟨h.ext,h.sat,h.own,h.size,h.defers,fun j u hj=>?_⟩)
  ·rcases m0 j l.length with h' |h'
   ·exact h'
   ·rw [hfree j h']at hjd;cases hjd
  ·rcases Dy l ts j u (fun o ho e=>by obtain⟨aN,hd,_⟩:=hs1 o ho;rw [hd]at e;cases e) hlen hj with⟨i,o,Y,H,Q⟩|⟨Y,H⟩
   ·exact h.new i o j u (hL2 i o Y) (hall i (pZ.1 Y).1) H Q
   ·refine h.old j u Y fun i o ho hdn=>?_
    rcases m0 i l.length with h' |h'
    ·exact H o (rm (hL1 i o h' ho))
    ·rw [hfree i h']at hdn;cases hdn
 have lower: ∀done a w S i,(∀j,l.length<=j->done.getD j false=false)->DJ E O G (l++t) ts done a w S->i∈Region.ready .any (l++t).toArray done->l.length<=i-> ∀j,j<l.length->done.getD j false=true:=by
  intro done a w S i hfree h hi hge j hj
  obtain⟨hun,p,hp,hwait⟩:=qN.1 hi
  have hp' :(l++t)[i]? =some p:=by simpa using hp
  have hcov:=(htail i p hge hp').1
  unfold tU at hcov
  have hre:=me.1 hcov j (by simp;omega)
  exact fz h.down _ i j (fun q hq e he W=>by
   have:q=p:=by rw [hp']at hq;simpa using hq.symm
   subst this
   exact hwait e he W) hre
 intro fuel
 induction fuel with
 |zero=>
  intro done a w S hu hfree h
  exact fin 0 done a w S hu hfree h fun i hi=>ru hu (by rw [h.dsz,kO];omega)
 |succ fuel ih=>
  intro done a w S hu hfree h
  by_cases hall: ∀i,i<l.length->done.getD i false=true
  ·exact fin _ done a w S hu hfree h hall
  have hready0: ∀m i,i<m->i<l.length->Region.ready .any (l++t).toArray done=[]->done.getD i false=true:=by
   intro m
   induction m with
   |zero=>intro i h;omega
   |succ m ihm=>
    intro i him hil hr
    have his:i<done.size:=by rw [h.dsz,kO];omega
    by_cases hdn:done.getD i true=true
    ·rw [<-m9 his];exact hdn
    ·exfalso
     obtain⟨o,ho⟩: ∃o,(l++t)[i]? =some o:=⟨l[i],hL2 i _ (sx hil)⟩
     have hmem:i∈Region.ready .any (l++t).toArray done:=by
      rw [qN]
      refine⟨by simpa using hdn,o,by simpa using ho,fun e he W=>?_⟩
      have:=hedge i o ho
      unfold dK at this
      have:=me.1 this e (by simpa using he)
      simp only [W,qK,sy,r0]at this
      exact ihm e.on (by omega) (by omega) hr
     rw [hr]at hmem;cases hmem
  refine⟨fun hr=>absurd (fun i hi=>hready0 (i+1) i (by omega) hi hr) hall,fun i hi=>?_⟩
  have hil:i<l.length:=by
   rcases m0 i l.length with h' |h'
   ·exact h'
   ·exact absurd (lower done a w S i hfree h hi h') hall
  obtain⟨hun,o,ho,hwait⟩:=qN.1 hi
  have ho' :(l++t)[i]? =some o:=by simpa using ho
  have hol:=hL1 i o hil ho'
  obtain⟨needs,u,Y,H,Q,_,h5⟩:=DR.get l 0 hd i o hol
  rw [uj]at Y Q
  have hF:=h.need ho' hun hwait H Q
  have h6:=h5 a w S h.sat h.own hF
  have hu' :kC (done.setIfInBounds i true)=fuel:=by have:=pb hun;omega
  obtain⟨aN,hdd,hdN,_⟩:=hs1 o (rm hol)
  have huq: ∀j p,(l++t)[j]? =some p->done.getD j false=true->p.dst=some aN->i=j:=fun j p hj hjd hpd=>by
   rcases m0 j l.length with h' |h'
   ·exact hs2 i j o p hol (hL1 j p h' hj) (by rw [hdd,hpd])
   ·rw [hfree j h']at hjd;cases hjd
  have hfree' : ∀j,l.length<=j->(done.setIfInBounds i true).getD j false=false:=fun j hj=>by
   rw [ub false (by omega)];exact hfree j hj
  unfold wpOpIn
  rw [ho]
  show if _ then _ else _
  by_cases hw:Region.wanted o (yielded (l++t).toArray a.tmps)=true
  ·rw [bu hw]at h6 ⊢
   refine j9 (fun a' w' ⟨v,S',ha,he,hs,hv⟩=>?_) h6
   subst ha
   exact ih _ _ _ S' hu' hfree' (h.stepT ho' hdd hdN huq hwait Y hun he hs hv)
  ·rw [aZ hw]at h6 ⊢
   exact⟨fun _ _=>trivial,ih _ _ _ S hu' hfree' (h.stepT ho' hdd hdN huq hwait Y hun (ib _ _ _) h.sat h6)⟩
def NV{id:Nat}{l t:List Oper}(hL:L=l++t)(hm:E.P.follows .mixedOrders=true)(hsl:tu E.N.n [] l=true)(hlen:ts.length=l.length)(D:wm L l.length t.length=true)(hd:DR E O G L ts 0 l)(k:RG E L.toArray h3 t O (Ia l ts G)):CG E h3 (.region id L.toArray true) O G:=fun a w S st=>by
 subst hL
 refine wpIn_region_any hm ?_
 obtain⟨he,hs⟩:=vw (w:=w) st.sat
 refine Fw hsl hlen hd D (fun a w S st=>k a w S st) _ _ _ _ S ?_ (fun j _=>?_)
  ⟨st.ext.step0 he,hs,st.own.ext0 he,st.facts.size,st.facts.defers,by simp,fun j o hj hdone=>?_,fun k t hk _=>st.facts.at_ k t hk,fun j o aN t hj hdone=>?_⟩
 ·unfold kC;rw [Jb,I9];simp
 ·simp [wE];split<;>rfl
 ·simp [wE]at hdone
  split at hdone<;>simp at hdone
 ·simp [wE]at hdone
  split at hdone<;>simp at hdone

abbrev It(α:Type):=(σ:Type)->(α->σ->Option (Bool×σ))->σ->Option σ

variable{base:Nat}
def dL.weak: ∀{O:List OE},dL base B w S O->dL 0 rn w S O
 |[],_=>trivial
 |_::_,⟨Y,H,Q⟩=>⟨⟨Y.1,fun _ _=> .inl (nv _)⟩,H,dL.weak Q⟩
def vT: ∀{O:List OE},dL 0 rn w S O->(∀f∈O,∀k,f.fp k->base<=k\/B k)->dL base B w S O
 |[],_,_=>trivial
 |_::_,⟨Y,H,Q⟩,h=>⟨⟨Y.1,h _ (nV ..)⟩,H,vT Q fun f hf=>h f (o8 _ hf)⟩
section
variable{ty:TypeId}
end
def JL:List OE->List OE->Prop
 |[],_=>True
 |f::O,g::O' =>(∀k,f.fp k->g.fp k)/\JL O O'
 |_::_,[]=>False
def JL.mem: ∀{O O' :List OE},JL O O' -> ∀k,(∃f∈O,f.fp k)-> ∃f∈O',f.fp k
 |f::O,g::O',⟨Y,H⟩,k,⟨q,hq,hk⟩=>by
  rcases jy.1 hq with e|e
  ·subst e;exact⟨g,nV ..,Y k hk⟩
  ·obtain⟨q',Q,h4⟩:=JL.mem H k ⟨q,e,hk⟩
   exact⟨q',o8 _ Q,h4⟩

variable{O1:List OE}{ι:Type}{O2:ι->List OE}
def ow: ∀{O1 O2:List OE},dL base B w S (O1++O2)->dL base B w S O1/\dL base B w S O2/\ ∀e∈O1,∀f∈O2,e.apart f
 |[],_,h=>⟨trivial,h,fun _ h=>(by cases h)⟩
 |e::O1,O2,⟨Y,H,Q⟩=>by
  obtain⟨k1,k2,k3⟩:=ow Q
  refine⟨⟨Y,fun f hf=>H f (AH _ hf),k1⟩,k2,fun g X f hf=>?_⟩
  rcases jy.1 X with rfl|X
  ·exact H f (List.mem_append_right _ hf)
  ·exact k3 g X f hf
section
section
variable{ty:TypeId}
end
end


section
variable{R:Ending->World->Prop}{ds:List Deferred}
end
def rT(t:Ty):Rp Unit where
 sz:=1
 agg:=false
 rc:=fun S cs _=> ∃v,cs=[v]/\v.oneCell' =true/\t.p S v
 mono:=fun h ⟨v,e,k,l⟩=>⟨v,e,k,t.mono h l⟩
 len:=fun⟨_,e,_⟩=>by rw [e];rfl
 one:=fun⟨v,e,k,_⟩ c hc=>by rw [e]at hc;simp at hc;subst hc;exact k
 sc:=fun _=>rfl
def V3{t:Ty}{v:Value}:(tD (rT t) u).p S v↔v.oneCell' =true/\t.p S v:=by
 constructor
 ·rintro⟨cs,rfl,w,rfl,Y,H⟩;exact⟨Y,H⟩
 ·rintro⟨Y,H⟩;exact⟨[v],rfl,v,rfl,Y,H⟩
variable{cap:Nat}{get:α->β}{k' :IntKind}{lo:Int}{ys:List α}
section
variable{ty:TypeId}
def b9.imp{t u:Ty}(h:b9 E O G o t)(k: ∀S v,t.p S v->u.p S v):b9 E O G o u:=fun a w S hs ho hf=>
 m7 (fun _ _ ⟨v,S',Y,H,Q,h4⟩=>⟨v,S',Y,H,Q,k S' v h4⟩) (h a w S hs ho hf)
def Ge{t:Ty}{p:Operand}(ti:TI E.P U 1 bytes false z)(hp:aI E.N G p (cH (rT t) ())):b9 E O G ⟨dst,.load U p,ty,pos,after,g⟩ t:=
 (jn (r:=rT t) (x:=()) ti rfl rfl hp).imp fun _ _ h=>(V3.1 h).2

def Er:rV.rc S [.slice none 0 0] (an none 0 0):=⟨rfl,rfl⟩
def Gs{N:Fr}(h:aI N G x (K (an l cap n))):aI N G x (tD rV (an l cap n)):=fun S a hf=>vy.2 ⟨h S a hf,by cases l<;>rfl⟩
def nD{p:Operand}(ti:TI E.P U 1 bytes false z)(hm:Z rV T b (an l cap n)∈O)(hp:aI E.N G p (K (M b 0))):
  b9 E O G ⟨dst,.load U p,ty,pos,after,g⟩ (K (an l cap n)):=(aE (q:=rV) (get:=fun x=>x) ti rfl rfl bo hm hp).imp fun _ _ h=>(vy.1 h).1

def dz{α:Type}(xs:List α)(lo hi:Int):Option (List α):=if 0<=lo/\lo<=hi/\hi<=(xs.length:Int)then some ((xs.take hi.toNat).drop lo.toNat)else none
def fb(h:dz xs lo hi=some ys): ∃l m:Nat,lo=l/\hi=m/\l<=m/\m<=xs.length/\ys=(xs.take m).drop l:=by
 unfold dz at h
 split at h
 ·rename_i hc
  exact⟨lo.toNat,hi.toNat,by omega,by omega,by omega,by omega,by simpa using h.symm⟩
 ·cases h
def wL{a:Option Addr}{l:Nat}(h:Db r S a xs)(hl:l<=m)(hm:m<=xs.length)(hc:xs.length<=cap):
  Db r S (if cap=l then a else a.map (·.add (l*r.sz))) ((xs.take m).drop l):=by
 by_cases hlm:l=m
 ·left;subst hlm;simp
 right
 rcases h with h|⟨b,off,c,T,fr,e1,e2,e3⟩
 ·subst h;simp at hm;omega
 subst e1
 have hne: ¬(cap=l):=by omega
 refine⟨b,off+l*r.sz,c,T,fr,?_,e2,?_⟩
 ·rw [aZ hne];simp [Addr.add]
 have hlen:((xs.take m).drop l).length=m-l:=by simp;omega
 have e4:xs=(xs.take m).take l++((xs.take m).drop l++xs.drop m):=by
  rw [<-oB,qL,qL]
 have Y:((xs.take m).take l).length=l:=by simp;omega
 rw [e4]at e3
 have H:=(oc e3).2
 have Q:=(oc H).1
 rw [Y]at Q
 rw [hlen]at Q ⊢
 rw [<-e4]at Q
 rw [wi,xm,sa]at Q
 have hmin:min ((m-l)*r.sz) (xs.length*r.sz-l*r.sz)=(m-l)*r.sz:=by
  rw [<-Nat.sub_mul];exact uz (xu _ (by omega))
 rwa [hmin]at Q
def k0{n:Int}{y:Nat}{code:BoundsCode}(h0:0<=n)(Y:n<=y):(Instr.sliceBound (.int k n) y code).run P w= .ok n.toNat w:=by
 simp [Instr.sliceBound,asIntOf,h0,Y]
def Id{hi:Operand}(D:E.P.underlying t=some (.slice T))(ti:TI E.P T sz bytes agg z)(hsz:r.sz=sz)(V:aI E.N G x (tD (gr r) xs))(hhi:aI E.N G hi (tD (rI k') j))(h:dz xs 0 j=some ys):b9 E O G ⟨dst,.slice t x none (some hi) none,ty,pos,after,g⟩ (tD (gr r) ys):=
 .of_pure fun a w S _ _ hf=>by
  subst hsz
  obtain⟨ad,cap,Y,H,Q,h4⟩:=jR.1 (V S a hf)
  have h6:=dq.1 (hhi S a hf)
  obtain⟨l,m,hl,rfl,h7,h8,rfl⟩:=fb h
  have hl0:l=0:=by omega
  subst hl0
  have hlen:((xs.take m).drop 0).length=m-0:=by simp;omega
  refine⟨.slice (if cap=0 then ad else ad.map (·.add (0*r.sz))) (m-0) (cap-0),?_,jR.2 ⟨_,cap-0,by rw [hlen],by omega,by omega,wL h4 h7 h8 H⟩⟩
  simp [execOp,Instr.sliceAt,Y,h6,Instr.slice,iv D,Instr.sliceBounds,k0 (k:=k') (n:=(m:Int)) (y:=cap) (by omega) (by omega),ti.sizeOf]
def Ic{lo:Operand}{i:Int}(D:E.P.underlying t=some (.slice T))(ti:TI E.P T sz bytes agg z)(hsz:r.sz=sz)(V:aI E.N G x (tD (gr r) xs))(hlo:aI E.N G lo (tD (rI k) i))(h:dz xs i (xs.length:Int)=some ys):b9 E O G ⟨dst,.slice t x (some lo) none none,ty,pos,after,g⟩ (tD (gr r) ys):=
 .of_pure fun a w S _ _ hf=>by
  subst hsz
  obtain⟨ad,cap,Y,H,Q,h4⟩:=jR.1 (V S a hf)
  have h5:=dq.1 (hlo S a hf)
  obtain⟨l,m,rfl,hm,h7,h8,rfl⟩:=fb h
  have hm' :m=xs.length:=by omega
  subst hm'
  have hlen:((xs.take xs.length).drop l).length=xs.length-l:=by simp
  refine⟨.slice (if cap=l then ad else ad.map (·.add (l*r.sz))) (xs.length-l) (cap-l),?_,jR.2 ⟨_,cap-l,by rw [hlen],by omega,by omega,wL h4 h7 h8 H⟩⟩
  simp [execOp,Instr.sliceAt,Y,h5,Instr.slice,iv D,Instr.sliceBounds,k0 (k:=k) (n:=(l:Int)) (y:=xs.length) (by omega) (by omega),ti.sizeOf]
end
def pX{id:Nat}(m:Nat)(hm:E.P.follows .mixedOrders=true)(hsl:tu E.N.n [] (L.take m)=true)(hlen:ts.length=(L.take m).length)(D:wm L (L.take m).length (L.drop m).length=true)(hd:DR E O G L ts 0 (L.take m))(k:RG E L.toArray h3 (L.drop m) O (Ia (L.take m) ts G)):CG E h3 (.region id L.toArray true) O G:=NV (qL m L).symm hm hsl hlen D hd k

def jX(P:Program){α:Type} [DecidableEq α](t:TypeId)(r:Rp α)(n:Nat):Prop:=
 ∀(S:SH) (cs ds:List Value) (x y:α) (aN:Nat) (w:World),r.rc S cs x->r.rc S ds y->(Op.equalIn (aN+n) t (r.val cs) (r.val ds)).run P w= .ok (decide (x=y)) w
def pM(h:P.underlying t=some (.int k')):jX P t (rI k) (n+1):=fun S cs ds x y aN w V hy=>by
 have Y:cs=[.int k x]:=V
 have H:ds=[.int k y]:=hy
 subst Y H
 have:(Op.equalIn (aN+n+1) t (.int k x) (.int k y)).run P w= .ok (x==y) w:=by simp [Op.equalIn,iv h]
 have e:(x==y)=decide (x=y):=by by_cases h:x=y<;>simp [h]
 rw [e]at this
 exact this
def Nq(h:P.underlying t=some .bool):jX P t rB (n+1):=fun S cs ds x y aN w V hy=>by
 have Y:cs=[.bool x]:=V
 have H:ds=[.bool y]:=hy
 subst Y H
 have:=run_equalIn_bool' (P:=P) w (aN+n) t x y h
 simp only [Rp.val,rB,List.headD_cons,o0,md]
 rw [show aN+(n+1)=aN+n+1 from rfl,this]
 cases x<;>cases y<;>rfl
def PJ(h:P.underlying t=some .string):jX P t rS (n+1):=fun S cs ds x y aN w V hy=>by
 have Y:cs=[.string ⟨x.toArray⟩]:=V
 have H:ds=[.string ⟨y.toArray⟩]:=hy
 subst Y H
 have:=run_equalIn_string (P:=P) w (aN+n) t ⟨x.toArray⟩ ⟨y.toArray⟩ h
 simp only [Rp.val,rS,List.headD_cons,o0,md]
 rw [show aN+(n+1)=aN+n+1 from rfl,this]
 simp only [ByteArray.toList_eq]
 by_cases e:x=y<;>simp [e]
abbrev Fd:=TypeId×Nat×Bool
def Ix(f:Field):Fd:=(f.type,f.offset,f.name== "_")
def Lm(aN:Nat)(xs ys:Array Value):List Fd->Sem Bool
 |[]=>pure true
 |f::fs=>
  if f.2.2=false then do
   let a<-part f.1 xs f.2.1
   let b<-part f.1 ys f.2.1
   let r<-Op.equalIn aN f.1 a b
   if(!r)=true then pure false else Lm aN xs ys fs
  else Lm aN xs ys fs
def GL(aN:Nat)(xs ys:Array Value): ∀fs:List Field,Op.eqFields aN xs ys fs=Lm aN xs ys (fs.map Ix)
 |[]=>rfl
 |f::fs=>by
  unfold Op.eqFields Lm
  rw [GL aN xs ys fs]
  by_cases h:f.name= "_"
  ·have e:((Ix f).2.2=false)=False:=by simp [Ix,h]
   simp only [AA,e,md]
   rw [aZ (by simpa using h)]
  ·have e:((Ix f).2.2=false)=True:=by simp [Ix,h]
   simp only [AA,e,jY]
   rw [bu (by simpa using h)]
   rfl
def DZ(P:Program){α:Type}(r:Rp α)(n:Nat)(fs:List Fd)(c:α->α->Bool):Prop:=
 ∀(S:SH) (cs ds:List Value) (x y:α) (aN:Nat) (w:World),r.rc S cs x->r.rc S ds y->(Lm (aN+n) cs.toArray ds.toArray fs).run P w= .ok (c x y) w
def DZ.nil:DZ P r n [] (fun _ _=>true):=fun _ _ _ _ _ _ _ _ _=>rfl
def qp(ti:TI P t sz bytes agg z)(hsz:q.sz=sz)(hag:q.agg=agg)(hf:j6 r off q get){cs:List Value}{x:α}(V:r.rc S cs x)(w:World):
  (part t cs.toArray off).run P w= .ok (q.val ((cs.drop off).take q.sz)) w:=by
 have h:=hf S cs x V
 have hl:=q.len h
 subst hsz hag
 unfold part
 by_cases ha:q.agg=true
 ·have e1:=ti.isAgg w
  simp only [rl,e1,ha,sF,jY,ti.sizeOf,Sem.run_pure]
  unfold Rp.val
  rw [bu ha]
  congr 2
  apply Array.ext'
  simp
 ·rw [yH]at ha
  have e1:=ti.isAgg w
  have hs1:=q.sc ha
  simp only [rl,e1,ha,sF,o0,md]
  rw [hs1]at hl ⊢
  obtain⟨v,hv⟩:=List.length_eq_one_iff.1 hl
  have hc:cs[off]? =some v:=by
   have:((cs.drop off).take 1)[0]? =some v:=by rw [hv];rfl
   rw [vX (by omega),tk]at this
   simpa using this
  unfold Rp.val
  rw [hv,ha]
  simp [hc]
def DZ.cons [DecidableEq β]{t:Nat}{fs:List Fd}{c:α->α->Bool}(ti:TI P t sz bytes agg z)(hsz:q.sz=sz)(hag:q.agg=agg)(hf:j6 r off q get)(he:jX P t q n)(hr:DZ P r n fs c):
  DZ P r n ((t,off,false)::fs) (fun x y=>decide (get x=get y)&&c x y):=fun S cs ds x y aN w V hy=>by
 have Y:=qp ti hsz hag hf V w
 have H:=qp ti hsz hag hf hy w
 have Q:=he S _ _ _ _ aN w (hf S cs x V) (hf S ds y hy)
 unfold Lm
 simp only [jY,rl,Y,H,Q,sF]
 by_cases e:get x=get y
 ·simp only [e,decide_true,qK,o0,md,mA]
  exact hr S cs ds x y aN w V hy
 ·simp [e]
def xf [DecidableEq α]{t:Nat}{fs:List Fd}{c:α->α->Bool}(D:(P.underlying t).map (fun aN=>match aN with| .struct l=>(true,l.toList.map Ix)|_=>(false,[]))=some (true,fs))(hp:P.stoodInHeld t=false)(ha:r.agg=true)(hr:DZ P r n fs c)(hc: ∀x y,c x y=decide (x=y)):jX P t r (n+1):=fun S cs ds x y aN w V hy=>by
 obtain⟨l,Y,H⟩: ∃l,P.underlying t=some (.struct l)/\l.toList.map Ix=fs:=by
  cases hu:P.underlying t with
  |none=>rw [hu]at D;cases D
  |some aN=>
   rw [hu]at D
   cases aN<;>simp at D
   exact⟨_,rfl,D⟩
 have hfo:P.fieldsOf t=l:=by unfold Program.fieldsOf;rw [Y]
 have:=run_equalIn_struct (P:=P) w (aN+n) t cs.toArray ds.toArray (by rw [hfo];exact Y) hp
 rw [qk ha,qk ha,show aN+(n+1)=aN+n+1 from rfl,this,hfo,GL,H,hr S cs ds x y aN w V hy,hc]
def jg [DecidableEq α](h:jX P t r n)(m:Nat):jX P t r (m+n):=fun S cs ds x y aN w V hy=>by
 have:=h S cs ds x y (aN+m) w V hy
 rwa [Nat.add_assoc]at this
def Hj.of [DecidableEq α](X:P.eqGuardType P.depth t=false)(h:jX P t r 20):Hj P t r:=⟨X,fun S cs ds x y aN w V hy=>h S cs ds x y aN w V hy⟩

def Nw{l:List α}{e:α}(h:xs.drop i=e::l):decide ((i:Int)<(xs.length:Int))=true:=by
 have:i<xs.length:=by
  rcases m0 i xs.length with h' |h'
  ·exact h'
  ·rw [Fj h']at h;cases h
 simp;omega
def Qs(h:xs.drop i=[]):decide ((i:Int)<(xs.length:Int))=false:=by
 have:=CU.1 h
 simp;omega
def dO{l:List α}{e:α}(h:xs.drop i=e::l):xs.drop (i+1)=l:=by
 rw [<-sa,h];rfl
def eo{l:List α}{e:α}(h:xs.drop i=e::l):ga xs (i:Int)=some e:=by
 rw [eZ]
 have:=tk (xs:=xs) (i:=i) (j:=0)
 rw [h]at this
 simpa using this.symm
def Qr{l:List α}{e:α}(h:xs.drop i=e::l)(hN:xs.length<=maxLen):i<9223372036854775807:=by
 have:=of_decide_eq_true (Nw h)
 simp only [maxLen]at hN
 omega
def Tz{k:Nat}(h:N-i=k+1):decide ((i:Int)<(N:Int))=true:=by simp;omega
def TA(h:N-i=0):decide ((i:Int)<(N:Int))=false:=by simp;omega
def Rq{k:Nat}(h:N-i=k+1):N-(i+1)=k:=by omega
def Rr{k:Nat}(h:N-i=k+1)(hN:N<=9223372036854775807):i<9223372036854775807:=by omega
def TC(h:n<=maxLen):n<=9223372036854775807:=by simp only [maxLen]at h;omega
variable{ix:Operand}{mm:Bool}{ops:Array Oper}{zs:List α}
section
variable{e:Exit}
section
variable{ty:TypeId}
def Ag{one:Operand}{xt yt:TypeId}(hi:i<9223372036854775807)(V:aI E.N G x (tD (rI .i64) (i:Int)))(Y:aI E.N G one (tD (rI .i64) 1)):
  b9 E O G ⟨dst,.binOp .add xt x one yt,ty,pos,after,g⟩ (tD (rI .i64) ((i+1:Nat):Int)):=by
 have e:IntKind.i64.wrap ((i:Int)+1)=((i+1:Nat):Int):=by
  rw [p6];omega
 have:=fc (E:=E) (O:=O) (dst:=dst) (ty:=ty) (pos:=pos) (after:=after) (g:=g) (xt:=xt) (yt:=yt) V Y
 rwa [e]at this
end
def yC(hm:kP mm r T l cap xs∈O)(h:xs.length<=maxLen->CG E h3 c O G):CG E h3 c O G:=fun a w S st=>by
 refine h ?_ a w S st
 obtain⟨cells,Y,_⟩:=(st.own.mem _ hm).1
 cases l with
 |none=>have:=Y.1;omega
 |some b=>obtain⟨cur,_,g2,g3,_⟩:=Y;exact wh g2 g3
def St.dataAt{k:Nat}(h:St E O G a w S)(hk:b8 G k=some (tO r l cap xs)):St E O ((k,tD (gr r) xs)::G) a w S:=h.cons (h.facts.at_ k _ hk).2
def LE(k:Nat)(hk:b8 G k=some (tO r l cap xs))(h:CG E h3 c O ((k,tD (gr r) xs)::G)):CG E h3 c O G:=fun a w S st=>h a w S (st.dataAt hk)
def fE(k:Nat)(hk:b8 G k=some (tO r l cap xs))(h:AT E h3 e O ((k,tD (gr r) xs)::G)):AT E h3 e O G:=fun a w S st=>h a w S (st.dataAt hk)
def xg(l:Option Nat)(off:Nat):Value:=
 match l with
 |none=> .pointer none
 |some b=>M b off
def uT(h:xj mm r T l cap xs w S){e:α}(hi:xs[i]? =some e):
  ∃b cur,l=some b/\w.heap[b]? =some (.cells cur T (0,0))/\xs.length<=cap/\cur.size=cap*r.sz/\r.rc S ((cur.toList.drop (i*r.sz)).take r.sz) e:=by
 obtain⟨cells,Y,H,_⟩:=h
 have hlt:=(pZ.1 hi).1
 cases l with
 |none=>have:=Y.1;omega
 |some b=>
  obtain⟨cur,g1,g2,g3,g4,g5⟩:=Y
  refine⟨b,cur,rfl,g1,g2,g4,?_⟩
  have Q:=xJ H hi
  rw [<-g5,wi,xm]at Q
  have h4:i*r.sz+r.sz<=xs.length*r.sz:=by
   rw [<-Nat.succ_mul];exact xu _ hlt
  rwa [uz (by omega)]at Q
def lQ{i:Int}{e:α}(h:ga xs i=some e):0<=i/\xs[i.toNat]? =some e:=by
 unfold ga at h
 split at h
 ·exact⟨by assumption,h⟩
 ·cases h
section
variable{ty:TypeId}
def gy{e:TypeId}{i:Int}(D:E.P.underlying t=some (.slice e))(ti:TI E.P e sz bytes agg z)(hm:kP mm r U l cap xs∈O)(V:aI E.N G x (K (an l cap n)))(hi:aI E.N G ix (tD (rI k) i))(hy:ga xs i=some y)(hn:n=xs.length:=by rfl):
  b9 E O G ⟨dst,.indexAddr t x ix,ty,pos,after,g⟩ (K (xg l (i.toNat*sz+0))):=
 .of_pure fun a w S _ ho hf=>by
  subst hn
  have Y:a.eval x=an l cap xs.length:=V S a hf
  have Q:a.eval ix= .int k i:=dq.1 (hi S a hf)
  obtain⟨h0,hy'⟩:=lQ hy
  obtain⟨b,cur,rfl,_⟩:=uT (ho.mem _ hm).1 hy'
  have hlt:i.toNat<xs.length:=(pZ.1 hy').1
  refine⟨_,?_,rfl⟩
  have hc:0<=i/\i<(xs.length:Int):=⟨h0,by omega⟩
  simp [execOp,Y,Q,an,Instr.indexAt,asIntOf,iv D,hc,ti.sizeOf,hZ,xg,M]
def lP{foff:Nat}{i:Int}{p:Operand}(ti:TI E.P T sz bytes agg z)(hsz:q.sz=sz)(hag:q.agg=agg)(hget:j6 r foff q get)(hoff:Nat.ble (foff+q.sz) r.sz=true)(hm:kP mm r U l cap xs∈O)(hy:ga xs i=some y)(hp:aI E.N G p (K (xg l (i.toNat*r.sz+foff)))):b9 E O G ⟨dst,.load T p,ty,pos,after,g⟩ (tD q (get y)):=
 .of_pure fun a w S _ ho hf=>by
  have Y:a.eval p=xg l (i.toNat*r.sz+foff):=hp S a hf
  obtain⟨h0,hy'⟩:=lQ hy
  obtain⟨b,cur,rfl,W,_,_,h6⟩:=uT (ho.mem _ hm).1 hy'
  have hoff' :=pN hoff
  have h7:=hget S _ _ h6
  rw [wi,xm,sa,uz (by omega)]at h7
  refine⟨_,?_,_,rfl,h7⟩
  simp [execOp,Y,xg,M,Instr.loadAt,Instr.sureAddr,jF ti W hsz hag h7]
end
def Ad{α:Type}{r:Rp α}{S:SH}{y:α}{c:List Value}(hc:r.rc S c y): ∀{xs:List α} {i:Nat} {cs:List Value},o4 r S cs xs->i<xs.length->o4 r S (cs.take (i*r.sz)++c++cs.drop (i*r.sz+r.sz)) (xs.set i y)
 |[],_,_,_,h=>by simp at h
 |x::xs,0,cs,⟨a,b,e,Y,H⟩,_=>by
  have hl:=r.len Y
  refine⟨c,b,?_,hc,H⟩
  rw [e,<-hl];simp
 |x::xs,i+1,cs,⟨a,b,e,Y,H⟩,h=>by
  have hl:=r.len Y
  have ih:=Ad hc H (i:=i) (by simpa using h)
  refine⟨a,_,?_,Y,ih⟩
  have e1:(i+1)*r.sz=a.length+i*r.sz:=by rw [hl,ux];omega
  rw [e,e1,List.take_length_add_append,Nat.add_assoc,List.drop_length_add_append]
  simp
def zn{set:α->β->α}{foff:Nat}{v:β}{i:Int}{p:Operand}{ty:TypeId}(ti:TI E.P T sz bytes agg z)(hsz:q.sz=sz)(hset:eE r foff q set)(hoff:Nat.ble (foff+q.sz) r.sz=true)(hy:ga xs i=some y)(hz:xs.set i.toNat (set y v)=zs)(hp:aI E.N G p (K (xg l (i.toNat*r.sz+foff))))(V:aI E.N G x (tD q v))(k:RG E ops h3 rest (cM r U l cap zs::O) G):
  RG E ops h3 (⟨none,.store T p x,ty,pos,after,none⟩::rest) (cM r U l cap xs::O) G:= .of rfl fun a w S st=>by
 subst hz
 have Y:a.eval p=xg l (i.toNat*r.sz+foff):=hp S a st.facts
 obtain⟨ds,H,Q⟩:=V S a st.facts
 obtain⟨h0,hy'⟩:=lQ hy
 have hlt:i.toNat<xs.length:=(pZ.1 hy').1
 obtain⟨cells,hraw,hrc,hno⟩:=st.own.1.1
 obtain⟨b,cur,rfl,W,hle,hcs,h6⟩:=uT st.own.1.1 hy'
 obtain⟨cur',hb',hle',hmax,hcs',hct⟩:=hraw
 have hcc:cur' =cur:=by rw [W]at hb';injection hb' with e;injection e with e1;exact e1.symm
 subst hcc
 have hno' :S b=none:=hno b rfl
 have hoff' :=pN hoff
 have hl3:=q.len Q
 have hmul:i.toNat*r.sz+r.sz<=xs.length*r.sz:=by rw [<-Nat.succ_mul];exact xu _ hlt
 have hmul2:xs.length*r.sz<=cur'.size:=by rw [hcs];exact xu _ hle
 obtain⟨w',hr,e1,e2,e3,e4,e5,e6⟩:=iY ti hsz Q W (off:=i.toNat*r.sz+foff) (by omega)
 have hrun:(execOp a.eval ⟨none,.store T p x,ty,pos,after,none⟩).run E.P w= .ok .skip w' :=by
  simp [execOp,Y,H,Instr.storeAt,xg,M,Instr.sureAddr,hr]
 refine⟨fun c h=>(by cases h),?_⟩
 rw [hrun]
 have hnew:=hset S _ _ _ _ h6 Q
 have hrc' :=Ad hnew hrc hlt
 have hcl:=jl hrc
 have hcells:(cur'.toList.take (i.toNat*r.sz+foff)++ds++cur'.toList.drop (i.toNat*r.sz+foff+q.sz)).take (xs.length*r.sz)=
   cells.take (i.toNat*r.sz)++(((cur'.toList.drop (i.toNat*r.sz)).take r.sz).take foff++ds++((cur'.toList.drop (i.toNat*r.sz)).take r.sz).drop (foff+q.sz))++cells.drop (i.toNat*r.sz+r.sz):=by
  subst hct
  apply List.ext_getElem?
  intro j
  simp only [List.getElem?_take,List.getElem?_append,tk,As,zX,kO,Fc]
  rcases m0 j (xs.length*r.sz)with hj|hj
  ·simp only [hj,jY]
   rcases m0 j (i.toNat*r.sz)with hj1|hj1
   ·rw [bu (by omega),bu (by omega),bu (by omega),bu (by omega),bu (by omega),bu (by omega)]
   ·rcases m0 j (i.toNat*r.sz+foff)with hj2|hj2
    ·rw [bu (by omega),bu (by omega),bu (by omega),bu (by omega),aZ (by omega),bu (by omega),bu (by omega),bu (by omega),bu (by omega)]
     congr 1;omega
    ·rcases m0 j (i.toNat*r.sz+foff+q.sz)with hj3|hj3
     ·rw [bu (by omega),aZ (by omega),bu (by omega),aZ (by omega),bu (by omega),aZ (by omega)]
      congr 1;omega
     ·rw [aZ (by omega)]
      rcases m0 j (i.toNat*r.sz+r.sz)with hj4|hj4
      ·rw [bu (by omega),aZ (by omega),aZ (by omega),bu (by omega)]
       congr 1;omega
      ·rw [aZ (by omega),bu (by omega)]
       congr 1;omega
  ·rw [aZ (by omega),aZ (by omega),aZ (by omega)]
 obtain⟨g1,g2,g3⟩:=lV (O:=O) st.sat (cM r U (some b) cap xs) (cM r U (some b) cap (xs.set i.toNat (set y v))) st.own (fun k=>⟨fun h=>(oy h).symm,fun h=>by rw [h];rfl⟩) (fun k=>⟨fun h=>(oy h).symm,fun h=>by rw [h];rfl⟩) ⟨e1,e2,e3,e4.1,e4.2⟩ e6
  ⟨_,⟨_,e5,by rw [zW];exact hle,hmax,by simp only [CS,kO,As,zX,Fc];omega,by rw [zW];exact hcells⟩,hrc',fun k hk=>by rw [<-oy hk];exact hno'⟩ hno'
 exact k _ _ S ⟨st.ext.step g1 (fun c hc=>st.own.1.2 c (by rw [hc];rfl)),g2,g3,st.facts⟩

def mf(sz:Nat)(l:Option Nat)(cap lo n:Nat):Value:=
 match l with
 |none=> .slice none 0 0
 |some b=> .slice (some ⟨b,if cap=lo then 0 else lo*sz,none⟩) n (cap-lo)
section
variable{ty:TypeId}
def Ds(h:xj mm r U l cap xs w S): ∃ad c,an l cap xs.length= .slice ad xs.length c/\xs.length<=c/\ad=l.map (fun b=>⟨b,0,none⟩)/\(l=none->c=0/\xs=[])/\(l≠none->c=cap):=by
 obtain⟨cells,Y,_⟩:=h
 cases l with
 |none=>
  have V:xs=[]:=sd Y.1
  subst V
  exact⟨none,0,rfl,jW _,rfl,fun _=>⟨rfl,rfl⟩,fun h=>absurd rfl h⟩
 |some b=>
  obtain⟨cur,_,g2,_⟩:=Y
  exact⟨_,cap,rfl,g2,rfl,fun h=>(by cases h),fun _=>rfl⟩
def mO{hi:Operand}(D:E.P.underlying t=some (.slice T))(ti:TI E.P T sz bytes agg z)(hsz:r.sz=sz)(hm:kP mm r U l cap xs∈O)(V:aI E.N G x (K (an l cap n)))(hhi:aI E.N G hi (tD (rI k') j))(h:dz xs 0 j=some ys)(hn:n=xs.length:=by rfl):b9 E O G ⟨dst,.slice t x none (some hi) none,ty,pos,after,g⟩ (K (an l cap ys.length)):=
 .of_pure fun a w S _ ho hf=>by
  subst hsz
  subst hn
  have Y:a.eval x=an l cap xs.length:=V S a hf
  obtain⟨ad,c,H,Q,h4,h5,h5'⟩:=Ds (ho.mem _ hm).1
  have h6:=dq.1 (hhi S a hf)
  obtain⟨lo,m,hl,rfl,h7,h8,rfl⟩:=fb h
  have hl0:lo=0:=by omega
  subst hl0
  have hlen:((xs.take m).drop 0).length=m:=by simp;omega
  refine⟨_,?_,rfl⟩
  rw [H]at Y
  have hr:(execOp a.eval ⟨dst,.slice t x none (some hi) none,ty,pos,after,g⟩).run E.P w= .ok (.value (.slice ad m c)) w:=by
   simp [execOp,Instr.sliceAt,Y,h6,Instr.slice,iv D,Instr.sliceBounds,k0 (k:=k') (n:=(m:Int)) (y:=c) (by omega) (by omega),ti.sizeOf]
   cases ad<;>simp [Addr.add]
  rw [hr,hlen,h4]
  cases l with
  |none=>
   obtain⟨rfl,rfl⟩:=h5 rfl
   have:m=0:=by simpa using h8
   subst this;rfl
  |some b=>rw [h5' (by simp)];rfl
def oe{lo:Operand}{i:Int}(D:E.P.underlying t=some (.slice T))(ti:TI E.P T sz bytes agg z)(hsz:r.sz=sz)(hm:kP mm r U l cap xs∈O)(V:aI E.N G x (K (an l cap n)))(hlo:aI E.N G lo (tD (rI k) i))(h:dz xs i (xs.length:Int)=some ys)(hn:n=xs.length:=by rfl):b9 E O G ⟨dst,.slice t x (some lo) none none,ty,pos,after,g⟩ (K (mf sz l cap i.toNat ys.length)):=
 .of_pure fun a w S _ ho hf=>by
  subst hsz
  subst hn
  have Y:a.eval x=an l cap xs.length:=V S a hf
  obtain⟨ad,c,H,Q,h4,h5,h5'⟩:=Ds (ho.mem _ hm).1
  have h6:=dq.1 (hlo S a hf)
  obtain⟨lo',m,rfl,hm',h7,h8,rfl⟩:=fb h
  have hm2:m=xs.length:=by omega
  subst hm2
  have hlen:((xs.take xs.length).drop lo').length=xs.length-lo' :=by simp
  refine⟨_,?_,rfl⟩
  rw [H]at Y
  have hr:(execOp a.eval ⟨dst,.slice t x (some lo) none none,ty,pos,after,g⟩).run E.P w= .ok (.value (.slice (if c=lo' then ad else ad.map (·.add (lo' *r.sz))) (xs.length-lo') (c-lo'))) w:=by
   simp [execOp,Instr.sliceAt,Y,h6,Instr.slice,iv D,Instr.sliceBounds,k0 (k:=k) (n:=(lo' :Int)) (y:=xs.length) (by omega) (by omega),ti.sizeOf]
  rw [hr,hlen,h4]
  cases l with
  |none=>
   obtain⟨rfl,rfl⟩:=h5 rfl
   have:lo' =0:=by simpa using h7
   subst this;rfl
  |some b=>
   rw [h5' (by simp)]
   unfold mf
   simp only [yJ,uk,hZ,uj]
   split<;>rfl
def wK{i:Int}(h:dz xs lo hi=some ys)(hy:ga ys i=some y):ga xs (lo+i)=some y/\0<=lo/\0<=i:=by
 obtain⟨l,m,rfl,rfl,Y,H,rfl⟩:=fb h
 obtain⟨h0,Q⟩:=lQ hy
 refine⟨?_,by omega,h0⟩
 obtain⟨j,rfl⟩: ∃j:Nat,i=j:=⟨i.toNat,by omega⟩
 rw [show((l:Int)+(j:Int))=((l+j:Nat):Int)from by omega,eZ]
 rw [tk,yJ]at Q
 have hlt:l+j<m:=by
  have:=(pZ.1 Q).1
  simp at this;omega
 rwa [vX hlt]at Q
def wu{e:TypeId}{i:Int}(D:E.P.underlying t=some (.slice e))(ti:TI E.P e sz bytes agg z)(hsz:r.sz=sz)(hm:kP mm r U l cap xs∈O)(hs:dz xs lo hi=some ys)(V:aI E.N G x (K (mf sz l cap lo.toNat ys.length)))(hi' :aI E.N G ix (tD (rI k) i))(hy:ga ys i=some y):
  b9 E O G ⟨dst,.indexAddr t x ix,ty,pos,after,g⟩ (K (xg l ((lo+i).toNat*sz+0))):=
 .of_pure fun a w S _ ho hf=>by
  subst hsz
  have Y:a.eval x=mf r.sz l cap lo.toNat ys.length:=V S a hf
  have Q:a.eval ix= .int k i:=dq.1 (hi' S a hf)
  obtain⟨hxi,hl0,hi0⟩:=wK hs hy
  obtain⟨_,hx'⟩:=lQ hxi
  obtain⟨b,cur,rfl,_,hle,_⟩:=uT (ho.mem _ hm).1 hx'
  have hlt:i.toNat<ys.length:=(pZ.1 (lQ hy).2).1
  have hlt2:(lo+i).toNat<xs.length:=(pZ.1 hx').1
  have hne: ¬(cap=lo.toNat):=by omega
  refine⟨_,?_,rfl⟩
  have hc:0<=i/\i<(ys.length:Int):=⟨hi0,by omega⟩
  have e1:(lo+i).toNat=lo.toNat+i.toNat:=by omega
  simp [execOp,Y,Q,mf,hne,Instr.indexAt,asIntOf,iv D,hc,ti.sizeOf,hZ,xg,M,e1,ux]
def Jz{e:TypeId}(D:E.P.underlying t=some (.slice e))(hm:kP mm r U l cap xs∈O)(hs:dz xs lo hi=some ys)(V:aI E.N G x (K (mf sz l cap lo.toNat ys.length))):
  b9 E O G ⟨dst,.call ⟨.builtin .len,#[x],#[t]⟩,ty,pos,after,g⟩ (tD (rI .i64) (ys.length:Int)):=
 .of_pure fun a w S _ ho hf=>by
  have Y:a.eval x=mf sz l cap lo.toNat ys.length:=V S a hf
  obtain⟨ad,c,Q⟩: ∃ad c,mf sz l cap lo.toNat ys.length= .slice ad ys.length c:=by
   cases l with
   |none=>
    obtain⟨_,H,_⟩:=(ho.mem _ hm).1
    have hx0:xs=[]:=sd H.1
    subst hx0
    obtain⟨l',m,_,_,_,h8,rfl⟩:=fb hs
    exact⟨none,0,by simp [mf]⟩
   |some b=>exact⟨_,_,rfl⟩
  refine⟨.int .i64 ys.length,?_,dq.2 rfl⟩
  simp [execOp,resolve,invoke,builtin,Builtin.len_,iv D,Y,Q,goInt]
end
def J5(h:dz xs 0 j=some ys)(k:xj false r U l cap xs w S):xj false r U l cap ys w S:=by
 obtain⟨lo,m,hl,rfl,h7,h8,rfl⟩:=fb h
 have hl0:lo=0:=by omega
 subst hl0
 obtain⟨cells,Y,H,Q⟩:=k
 have hlen:((xs.take m).drop 0).length=m:=by simp;omega
 have h4:o4 r S (cells.take (m*r.sz)) (xs.take m):=by
  have e:xs=xs.take m++xs.drop m:=(qL _ _).symm
  rw [e]at H
  have:=(oc H).1
  rwa [show(xs.take m).length=m from by simp;omega]at this
 refine⟨cells.take (m*r.sz),?_,by simpa using h4,fun b W=>Q b W⟩
 rw [hlen]
 cases l with
 |none=>
  obtain⟨g1,g2⟩:=Y
  exact⟨by omega,by rw [g2];simp⟩
 |some b=>
  obtain⟨cur,g1,g2,g3,g4,g5⟩:=Y
  exact⟨cur,g1,by omega,g3,g4,by rw [<-g5,xm,uz (xu _ h8)]⟩
def St.cut(h:dz xs 0 j=some ys)(st:St E (cM r U l cap xs::O) G a w S):St E (cM r U l cap ys::O) G a w S:=
 st.own_map fun ho=>⟨⟨J5 h ho.1.1,ho.1.2⟩,ho.2.1,ho.2.2⟩
def B7(h:dz xs 0 j=some ys)(k:RG E ops h3 rest (cM r U l cap ys::O) G):RG E ops h3 rest (cM r U l cap xs::O) G:=fun a w S st=>k a w S (st.cut h)
end

variable{x0 x1 x2 x3 x4 x5 x6:OE}
section
variable{e:Exit}
def rh{O:List OE}(h:dL base B w S (x0::x1::x2::x3::x4::x5::O)):dL base B w S (x5::x0::x1::x2::x3::x4::O):=
 (s9 h t8 (fun f hf=>by simp only [jy]at hf ⊢;rcases hf with h|h|h|h|h|h<;>simp [h])).swap
def lr(h:RG E ops h3 rest (x5::x0::x1::x2::x3::x4::O) G):RG E ops h3 rest (x0::x1::x2::x3::x4::x5::O) G:=fun a w S st=>h a w S (st.own_map rh)
def dX(h:AT E h3 e (x5::x0::x1::x2::x3::x4::O) G):AT E h3 e (x0::x1::x2::x3::x4::x5::O) G:=fun a w S st=>h a w S (st.own_map rh)
def vU(h:LG E h3 c (x5::x0::x1::x2::x3::x4::O) G):LG E h3 c (x0::x1::x2::x3::x4::x5::O) G:=fun a w S st=>h a w S (st.own_map rh)
def rg{O:List OE}(h:dL base B w S (x0::x1::x2::x3::x4::x5::x6::O)):dL base B w S (x6::x0::x1::x2::x3::x4::x5::O):=
 (s9 h rh (fun f hf=>by simp only [jy]at hf ⊢;rcases hf with h|h|h|h|h|h|h<;>simp [h])).swap
def ou(h:RG E ops h3 rest (x6::x0::x1::x2::x3::x4::x5::O) G):RG E ops h3 rest (x0::x1::x2::x3::x4::x5::x6::O) G:=fun a w S st=>h a w S (st.own_map rg)
def gT(h:AT E h3 e (x6::x0::x1::x2::x3::x4::x5::O) G):AT E h3 e (x0::x1::x2::x3::x4::x5::x6::O) G:=fun a w S st=>h a w S (st.own_map rg)
def qJ(h:LG E h3 c (x6::x0::x1::x2::x3::x4::x5::O) G):LG E h3 c (x0::x1::x2::x3::x4::x5::x6::O) G:=fun a w S st=>h a w S (st.own_map rg)
def Cb{x7:OE}{O:List OE}(h:dL base B w S (x0::x1::x2::x3::x4::x5::x6::x7::O)):dL base B w S (x7::x0::x1::x2::x3::x4::x5::x6::O):=
 (s9 h rg (fun f hf=>by simp only [jy]at hf ⊢;rcases hf with h|h|h|h|h|h|h|h<;>simp [h])).swap
def vR{x7:OE}(h:RG E ops h3 rest (x7::x0::x1::x2::x3::x4::x5::x6::O) G):RG E ops h3 rest (x0::x1::x2::x3::x4::x5::x6::x7::O) G:=fun a w S st=>h a w S (st.own_map Cb)
end

def vA(h:xs.set i y=zs):zs.length=xs.length:=by rw [<-h,zW]
section
def qH(hl:m=n)(ae:Nat)(hs:b8 G ae=some (K (an l cap n)))(k:RG E ops h3 rest O ((ae,K (an l cap m))::G)):RG E ops h3 rest O G:=by
 subst hl
 exact fun a w S st=>k a w S (st.cons (st.facts.at_ ae _ hs))
end

def dJ{o1 o2:Nat}{g1:α->β}{g2:β->γ}(Y:j6 r o1 q g1)(H:j6 q o2 ae g2)(W:Nat.ble (o2+ae.sz) q.sz=true:=by rfl):j6 r (o1+o2) ae (fun x=>g2 (g1 x)):=fun S cs x h=>by
 have Q:=H S _ _ (Y S cs x h)
 have hb' :=pN W
 rwa [wi,xm,sa,uz (by omega)]at Q
def qB{o1 o2:Nat}{g1:α->β}{u1:α->β->α}{u2:β->γ->β}(Y:j6 r o1 q g1)(k1:eE r o1 q u1)(k2:eE q o2 ae u2)(W:Nat.ble (o2+ae.sz) q.sz=true:=by rfl)(hc:Nat.ble (o1+q.sz) r.sz=true:=by rfl):
  eE r (o1+o2) ae (fun x y=>u1 x (u2 (g1 x) y)):=fun S cs x ds y h hy=>by
 have hb' :=pN W
 have hc' :=pN hc
 have hl:=r.len h
 have Q:=k1 S cs x _ _ h (k2 S _ _ ds y (Y S cs x h) hy)
 have e:cs.take (o1+o2)++ds++cs.drop (o1+o2+ae.sz)=cs.take o1++(((cs.drop o1).take q.sz).take o2++ds++((cs.drop o1).take q.sz).drop (o2+ae.sz))++cs.drop (o1+q.sz):=by
  rw [xm,uz (by omega),wi,sa,List.take_add,show o1+(o2+ae.sz)=o1+o2+ae.sz from by omega]
  simp only [oB]
  congr 3
  have e2:cs.drop (o1+q.sz)=(cs.drop (o1+o2+ae.sz)).drop (q.sz-(o2+ae.sz)):=by rw [sa];congr 1;omega
  rw [e2,qL]
 rw [e];exact Q

def bd(P:Program)(f:FuncId)(ts:List Ty)(O1:List OE){ι:Type}(t:ι->Ty)(O2:ι->List OE):Prop:=
 ∀w S vs,kV w S->uw S ts vs->dL 0 rn w S O1->Calls P f vs.toArray w fun en w' => ∃i v S',en= .returned v/\(t i).p S' v/\jc (fun k=> ∃f∈O1,f.fp k) w S w' S' /\kV w' S' /\dL 0 rn w' S' (O2 i)/\ ∀k,(∃f∈O2 i,f.fp k)->(∃f∈O1,f.fp k)\/w.heap.size<=k
def IP(E:En)(O1:List OE){ι:Type}(t:ι->Ty)(O2:ι->List OE):Ending->World->Prop:=fun en w' =>
 ∃i v S',en= .returned v/\(t i).p S' v/\jc E.B E.w0 E.S0 w' S' /\kV w' S' /\dL 0 rn w' S' (O2 i)/\ ∀k,(∃f∈O2 i,f.fp k)->(∃f∈O1,f.fp k)\/E.w0.heap.size<=k
def DD(O1:List OE):Nat->Prop:=fun k=> ∃f∈O1,f.fp k
def bd.of{t:ι->Ty}(hf:P.funcs[f]? =some fn)(W:fn.body=some c)(hN:fn.ntmps=N)(hn:Nat.ble ts.length N=true)(h: ∀w0 S0,CG ⟨P,⟨N,[]⟩,DD O1,w0,S0,none⟩ (bodyPost P fn (IP ⟨P,⟨N,[]⟩,DD O1,w0,S0,none⟩ O1 t O2)) c O1 (wv 0 ts)):bd P f ts O1 t O2:=by
 subst hN
 intro w S vs hs hv ho
 exact tY.1 (callsIn_of_wp (F:=fw none) (n:=0) hf W trivial (h w S _ w S ⟨ib _ _ _,hs,vT ho fun f hf k hk=> .inr ⟨f,hf,hk⟩,xe hv _ (pN hn)⟩))
def yl{t:ι->Ty}{v:Value}(st:St E O G a w S)(hB:E.B=DD O1)(i:ι)(hO:O=O2 i)(hv:(t i).p S v):IP E O1 t O2 (.returned v) w:=by
 subst hO
 refine⟨i,v,S,rfl,hv,st.ext,st.sat,st.own.weak,fun k ⟨f,hf,hk⟩=>?_⟩
 rcases(dL.mem st.own f hf).2 k hk with h|h
 ·exact .inr h
 ·rw [hB]at h;exact .inl h
section
variable{t:ι->Ty}
def bB{k:Nat}{u:Ty}(hr:fn.results= #[.tmp k])(i:ι)(hO:O=O2 i)(hk:b8 G k=some u)(hu: ∀S v,u.p S v->(t i).p S v):
  AT ⟨P,⟨N,[]⟩,DD O1,w0,S0,none⟩ (bodyPost P fn (IP ⟨P,⟨N,[]⟩,DD O1,w0,S0,none⟩ O1 t O2)) .ret O G:=fun _ _ S st=>
 ⟨st.facts.defers,_,qb P fn k hr _ _,yl st rfl i hO (hu S _ (st.facts.at_ k u hk))⟩
def oZ(hr:fn.results= #[])(i:ι)(hO:O=O2 i)(D:t i=tT []):
  AT ⟨P,⟨N,[]⟩,DD O1,w0,S0,none⟩ (bodyPost P fn (IP ⟨P,⟨N,[]⟩,DD O1,w0,S0,none⟩ O1 t O2)) .ret O G:=fun _ _ S st=>
 ⟨st.facts.defers,_,sJ P fn hr _ _,yl st rfl i hO (by rw [D];exact⟨[],rfl,trivial⟩)⟩
def dW(hr:fn.results= #[])(i:ι)(hO:O=O2 i)(D:t i=tT []):
  AT ⟨P,⟨N,[]⟩,DD O1,w0,S0,none⟩ (bodyPost P fn (IP ⟨P,⟨N,[]⟩,DD O1,w0,S0,none⟩ O1 t O2)) .normal O G:=fun _ _ S st=>
 ⟨st.facts.defers,_,sJ P fn hr _ _,yl st rfl i hO (by rw [D];exact⟨[],rfl,trivial⟩)⟩
end
def Ca: ∀{O1 O2:List OE},dL base B w S O1->dL base B w S O2->(∀e∈O1,∀f∈O2,e.apart f)->dL base B w S (O1++O2)
 |[],_,_,h,_=>h
 |e::O1,O2,⟨Y,H,Q⟩,h,ha=>⟨Y,fun f hf=>(xo.1 hf).elim (H f) (ha e (nV ..) f),Ca Q h fun g X f hf=>ha g (o8 _ X) f hf⟩
variable{ats:Array TypeId}
section
variable{ty:TypeId}
def St.turn{Or O2:List OE}(st:St E (O1++Or) G a w S)(V:jc (fun k=> ∃f∈O1,f.fp k) w S w' S')(hs:kV w' S')(ho:dL 0 rn w' S' O2)(hn: ∀k,(∃f∈O2,f.fp k)->(∃f∈O1,f.fp k)\/w.heap.size<=k):St E (O2++Or) G a w' S' :=by
 obtain⟨Y,H,Q⟩:=ow st.own
 have hbl:=st.base_le
 refine⟨st.ext.step V (fun b ⟨f,hf,W⟩=>(dL.mem Y f hf).2 b W),hs,Ca (vT ho fun f hf k hk=>?_) (H.ext V fun f hf b W ⟨g,X,hgb⟩=>Q g X f hf b hgb W) (fun e he f hf b heb hfb=>?_),st.facts.mono V.keep⟩
 ·rcases hn k ⟨f,hf,hk⟩with⟨g,X,hgk⟩|h
  ·exact(dL.mem Y g X).2 k hgk
  ·exact .inl (wh hbl h)
 ·rcases hn b ⟨e,he,heb⟩with⟨g,X,hgb⟩|h
  ·exact Q g X f hf b hgb hfb
  ·have:=f.here (dL.mem H f hf).1 b hfb
   omega
def B9{xs:List Operand}(O1 Or:List OE){t:ι->Ty}(hO:O=O1++Or)(hc:ak E.P f=true)(hs:bd E.P f ts O1 t O2)(V:js E.N G xs ts)(hd:Nat.blt aN E.N.n=true)(k: ∀i,RG E ops h3 rest (O2 i++Or) ((aN,t i)::G)):
  RG E ops h3 (⟨some aN,.call ⟨.value (.func f),xs.toArray,ats⟩,ty,pos,after,none⟩::rest) O G:= .of rfl fun a w S st=>by
 subst hO
 have hr:(execOp a.eval ⟨some aN,.call ⟨.value (.func f),xs.toArray,ats⟩,ty,pos,after,none⟩).run E.P w= .ok (.enter f (xs.map a.eval).toArray) w:=by
  simp [execOp,resolve,Act.eval,Deferred.ofValue,invoke,gA hc]
 refine⟨fun c h=>(by cases h),?_⟩
 rw [hr]
 refine(hs w S _ st.sat (V.tys st.facts) (ow st.own).1.weak).mono fun en w' ⟨i,v,S',he,hv,Y,H,Q,h4⟩=>⟨_,he,?_⟩;exact k i _ _ S' ((st.turn Y H Q h4).put hd hv)
end

structure OI where
 h:Nat->Option Nat×Nat:=fun _=>(none,0)
 os:List (Option Nat×Nat):=[]
 fp:Nat->Prop:=rn
 v:Value:=undef
 ng:Nat->(Option Nat×Nat)×(Nat->Option Nat×Nat):=fun _=>((none,0),fun _=>(none,0))
def j8:OI:={}
def oi(l:Option Nat)(c:Nat):OI:={h:=fun _=>(l,c)}
def EffOK(E:En)(O:List OE)(need:kN)(o:Oper)(post:OI->List OE)(t:OI->Ty):Prop:=
 ∀a w S,kV w S->dL E.base E.B w S O->bR E.N S a need->E.base<=w.heap.size->
  F8 E.P o a w (fun a' w' => ∃v S' x,a' =a.put o.dst v/\jc (DD O) w S w' S' /\kV w' S' /\dL E.base E.B w' S' (post x)/\(t x).p S' v)
variable{post:OI->List OE}{t' :TypeId}
section
variable{ty:TypeId}
def BS{y:Operand}{u:OI->Ty}(ti:TI E.P T sz bytes agg z)(hsz:r.sz=sz)(hz:Nat.beq z.length sz=true)(h0:Nat.blt 0 sz=true)(h128:Nat.ble bytes 2048=true)(D:E.P.underlying t=some (.slice T))(V:aI E.N G x (K (an l cap n)))(hy: ∀a w S,kV w S->bR E.N S a G-> ∃news,Src E.P r.sz t' (a.eval y) ys.length news w/\o4 r S news ys)(happ:jb xs ys=some zs)(hu: ∀l' cap' w0 S,(kP mm r T l' cap' zs).p w0 S->(u (oi l' cap')).p S (an l' cap' zs.length))(hn:n=xs.length):
  EffOK E (kP mm r T l cap xs::O) G ⟨some aN,.call ⟨.builtin .append,#[x,y],#[t,t']⟩,ty,pos,after,g⟩ (fun i=>kP mm r T (i.h 0).1 (i.h 0).2 zs::O) u:=fun a w S hs ho hf W=>by
 subst hn
 have Y:a.eval x=an l cap xs.length:=V S a hf
 obtain⟨news,H,Q⟩:=hy a w S hs hf
 obtain⟨l',cap',w',S',hr,hext,hsat,hh,hnew⟩:=uK (ty:=ty) ti hsz hz h0 h128 D hs ho.1 W H Q happ
 have hrun:(execOp a.eval ⟨some aN,.call ⟨.builtin .append,#[x,y],#[t,t']⟩,ty,pos,after,g⟩).run E.P w= .ok (.value (an l' cap' zs.length)) w' :=by
  simp [execOp,resolve,invoke,builtin,Y,hr]
 refine⟨fun c h=>(by cases h),?_⟩
 rw [hrun]
 refine⟨_,S',oi l' cap',rfl,hext.more fun b W=>⟨_,nV ..,W⟩,hsat,⟨hh,fun f hf b W hfb=>?_,ho.2.2.ext hext fun f hf b W hbl=>ho.2.1 f hf b hbl W⟩,hu l' cap' w' S' hh.1⟩
 rcases hnew b W with h|h
 ·exact ho.2.1 f hf b h hfb
 ·have:=f.here (dL.mem ho.2.2 f hf).1 b hfb
  omega
def rW{y:Operand}(ti:TI E.P T sz bytes agg z)(hsz:r.sz=sz)(hz:Nat.beq z.length sz=true)(h0:Nat.blt 0 sz=true)(h128:Nat.ble bytes 2048=true)(D:E.P.underlying t=some (.slice T))(ht' :t' =t)(V:aI E.N G x (K (an l cap n)))(hy:aI E.N G y (tD (gr r) ys))(happ:jb xs ys=some zs)(hn:n=xs.length:=by rfl):
  EffOK E (cM r T l cap xs::O) G ⟨some aN,.call ⟨.builtin .append,#[x,y],#[t,t']⟩,ty,pos,after,g⟩ (fun i=>cM r T (i.h 0).1 (i.h 0).2 zs::O) (fun i=>K (an (i.h 0).1 (i.h 0).2 zs.length)):=by
 subst ht'
 exact BS ti hsz hz h0 h128 D V (fun a w S hs hf=>rx D hs (hy S a hf)) happ (fun _ _ _ _ _=>rfl) hn
def GP{y:Operand}(ti:TI E.P T sz bytes agg z)(hsz:r.sz=sz)(hz:Nat.beq z.length sz=true)(h0:Nat.blt 0 sz=true)(h128:Nat.ble bytes 2048=true)(D:E.P.underlying t=some (.slice T))(ht' :t' =t)(V:aI E.N G x (tO r l cap xs))(hy:aI E.N G y (tD (gr r) ys))(happ:jb xs ys=some zs):
  EffOK E (tip r T l cap xs::O) G ⟨some aN,.call ⟨.builtin .append,#[x,y],#[t,t']⟩,ty,pos,after,g⟩ (fun i=>tip r T (i.h 0).1 (i.h 0).2 zs::O) (fun i=>tO r (i.h 0).1 (i.h 0).2 zs):=by
 subst ht'
 exact BS ti hsz hz h0 h128 D (z7 V) (fun a w S hs hf=>rx D hs (hy S a hf)) happ (fun _ _ _ _ h=>⟨rfl,lM h⟩) rfl
def Lp{xs:List Operand}{u:OI->Ty}(hc:ak E.P f=true)(hs:ir E.P f ts mm r T ys)(V:js E.N G xs ts)(hu: ∀l cap w0 S,(kP mm r T l cap ys).p w0 S->(u (oi l cap)).p S (an l cap ys.length)):
  EffOK E O G ⟨some aN,.call ⟨.value (.func f),xs.toArray,ats⟩,ty,pos,after,g⟩ (fun i=>kP mm r T (i.h 0).1 (i.h 0).2 ys::O) u:=fun a w S hsat ho hf W=>by
 have hr:(execOp a.eval ⟨some aN,.call ⟨.value (.func f),xs.toArray,ats⟩,ty,pos,after,g⟩).run E.P w= .ok (.enter f (xs.map a.eval).toArray) w:=by
  simp [execOp,resolve,Act.eval,Deferred.ofValue,invoke,gA hc]
 refine⟨fun c h=>(by cases h),?_⟩
 rw [hr]
 exact(hs w S _ hsat (V.tys hf)).mono fun e w' ⟨l,cap,S',he,Y,H,Q⟩=>⟨_,he,_,S',oi l cap,rfl,Y.more fun _ W=>W.elim,H,pJ ho Y Q.1 (fun b W=>(Q.2 b W).resolve_right id) W,hu l cap w' S' Q.1⟩
def ir.tip(h:ir P f ts mm r T ys):ir P f ts true r T ys:=by
 cases mm with
 |true=>exact h
 |false=>
  intro w S vs hs hv
  refine(h w S vs hs hv).mono fun e w' ⟨l,cap,S',he,Y,H,Q⟩=>?_
  have st:St ⟨default,⟨0,[]⟩,rn,w,S,none⟩ [cM r T l cap ys] [] ⟨#[],[]⟩ w' S' :=⟨Y,H,⟨Q,fun _ hf=>(by cases hf),trivial⟩,⟨rfl,rfl,fun _ _ h=>(by simp [b8]at h)⟩⟩
  obtain⟨S'',h4⟩:=st.freeze
  exact⟨l,cap,S'',he,h4.ext,h4.sat,h4.own.1⟩
def s5{xs:List Operand}(hc:ak E.P f=true)(hs:ir E.P f ts mm r T ys)(V:js E.N G xs ts):
  EffOK E O G ⟨some aN,.call ⟨.value (.func f),xs.toArray,ats⟩,ty,pos,after,g⟩ (fun i=>Go.Proofs.YtdohlidddcgfjaaGreat.tip r T (i.h 0).1 (i.h 0).2 ys::O) (fun i=>tO r (i.h 0).1 (i.h 0).2 ys):=Lp hc hs.tip V (fun _ _ _ _ h=>⟨rfl,lM h⟩)
def dL.turn{Or O2:List OE}(h:dL base B w S (O1++Or))(hbl:base<=w.heap.size)(V:jc (DD O1) w S w' S')(ho:dL 0 rn w' S' O2)(hn: ∀k,(∃f∈O2,f.fp k)->(∃f∈O1,f.fp k)\/w.heap.size<=k):dL base B w' S' (O2++Or):=by
 obtain⟨Y,H,Q⟩:=ow h
 refine Ca (vT ho fun f hf k hk=>?_) (H.ext V fun f hf b W ⟨g,X,hgb⟩=>Q g X f hf b hgb W) (fun e he f hf b heb hfb=>?_)
 ·rcases hn k ⟨f,hf,hk⟩with⟨g,X,hgk⟩|h
  ·exact(dL.mem Y g X).2 k hgk
  ·exact .inl (wh hbl h)
 ·rcases hn b ⟨e,he,heb⟩with⟨g,X,hgb⟩|h
  ·exact Q g X f hf b hgb hfb
  ·have:=f.here (dL.mem H f hf).1 b hfb
   omega
def au{xs:List Operand}(O1 Or:List OE){t:OI->Ty}{O2:OI->List OE}(hO:O=O1++Or)(hc:ak E.P f=true)(hs:bd E.P f ts O1 t O2)(V:js E.N G xs ts)(hpost: ∀i,O2 i++Or=post i):
  EffOK E O G ⟨some aN,.call ⟨.value (.func f),xs.toArray,ats⟩,ty,pos,after,g⟩ post t:=fun a w S hsat ho hf W=>by
 subst hO
 obtain rfl:(fun i=>O2 i++Or)=post:=funext hpost
 have hr:(execOp a.eval ⟨some aN,.call ⟨.value (.func f),xs.toArray,ats⟩,ty,pos,after,g⟩).run E.P w= .ok (.enter f (xs.map a.eval).toArray) w:=by
  simp [execOp,resolve,Act.eval,Deferred.ofValue,invoke,gA hc]
 refine⟨fun c h=>(by cases h),?_⟩
 rw [hr]
 exact(hs w S _ hsat (V.tys hf) (ow ho).1.weak).mono fun en w' ⟨i,v,S',he,hv,Y,H,Q,h4⟩=>⟨_,he,v,S',i,rfl,Y.more fun b ⟨f,hf,W⟩=>⟨f,AH _ hf,W⟩,H,dL.turn ho W Y Q h4,hv⟩
def aR{op:Op}{t:OI->Ty}(h:EffOK E O G ⟨some aN,op,ty,pos,after,none⟩ post t)(hd:Nat.blt aN E.N.n=true)(k: ∀x:OI,RG E ops h3 rest (post x) ((aN,t x)::G)):RG E ops h3 (⟨some aN,op,ty,pos,after,none⟩::rest) O G:= .of rfl fun a w S st=>
 m7 (fun a' w' ⟨v,S',x,ha,V,hs,ho,hv⟩=>by
  subst ha
  exact k x _ _ S' ⟨st.ext.step V fun b ⟨f,hf,W⟩=>(dL.mem st.own f hf).2 b W,hs,ho,(st.facts.mono V.keep).put hd hv⟩) (h a w S st.sat st.own st.facts st.base_le)
end

def Kp(σ:Nat->OI)(k:Nat)(x:OI):Nat->OI:=fun j=>bif Nat.beq j k then x else σ j
def Ef(σ:Nat->OI){k j:Nat}(x:OI)(h:j≠k):Kp σ k x j=σ j:=by
 have:Nat.beq j k=false:=by
  cases W:Nat.beq j k with
  |false=>rfl
  |true=>exact absurd (nk W) h
 simp [Kp,this]
structure NE where
 slot:Nat
 ty:(Nat->OI)->Ty
 src:Option Nat
def VO(G:kN)(ts:List (OI->Ty))(n:NE):Prop:=
 match n.src with
 |some j=> ∀σ,(ts[j]?).map (fun f=>f (σ j))=some (n.ty σ)
 |none=> ∀σ,b8 G n.slot=some (n.ty σ)
def Kb(G:kN)(ts:List (OI->Ty)):List NE->Prop
 |[]=>True
 |n::l=>VO G ts n/\Kb G ts l
def Kb.mem{ts:List (OI->Ty)}: ∀{l:List NE},Kb G ts l-> ∀n∈l,VO G ts n
 |_::_,⟨h,_⟩,_,.head _=>h
 |_::_,⟨_,h⟩,_,.tail _ hm=>Kb.mem h _ hm
def lx(E:En)(ops:Array Oper)(O:List OE)(need:kN)(o:Oper)(post:OI->List OE)(t:OI->Ty):Prop:=
 ∀a w S,kV w S->dL E.base E.B w S O->bR E.N S a need->E.base<=w.heap.size->
  if Region.wanted o (yielded ops a.tmps)then F8 E.P o a w (fun a' w' => ∃v S' x,a' =a.put o.dst v/\jc (DD O) w S w' S' /\kV w' S' /\dL E.base E.B w' S' (post x)/\(t x).p S' v)
  else∃x,dL E.base E.B w S (post x)/\(t x).p S undef
def cm{need:kN}{t:OI->Ty}(X:o.guard=none)(h:EffOK E O need o post t):lx E ops O need o post t:=fun a w S hs ho hf W=>by
 have:Region.wanted o (yielded ops a.tmps)=true:=by unfold Region.wanted;rw [X]
 rw [this,bu rfl]
 exact h a w S hs ho hf W
def fW(es:List Bool)(i:Nat):Nat:=(es.take i).countP (· ==true)
def IU(L:List Oper)(es:List Bool):Bool:=(List.range es.length).all fun i=>(List.range i).all fun j=> !((es[i]?).getD false&&(es[j]?).getD false)||mo L L.length i j
structure DJE(E:En)(G:kN)(l:List Oper)(ts:List (OI->Ty))(Om:Nat->(Nat->OI)->List OE)(es:List Bool)(done:Array Bool)(a:Act)(w:World)(S:SH)(σ:Nat->OI)(c:Nat):Prop where
 ext:jc E.B E.w0 E.S0 w S
 sat:kV w S
 own:dL E.base E.B w S (Om c σ)
 size:a.tmps.size=E.N.n
 defers:a.defers=E.N.ds
 dsz:done.size=l.length
 down: ∀j o,l[j]? =some o->done.getD j false=true-> ∀e∈o.after,Region.binds .any e=true->done.getD e.on false=true
 old: ∀k t,b8 G k=some t->(∀j o,l[j]? =some o->done.getD j false=true->o.dst≠some k)->t.p S (a.tmps.getD k undef)
 new: ∀j o aN f,l[j]? =some o->done.getD j false=true->o.dst=some aN->ts[j]? =some f->(f (σ j)).p S (a.tmps.getD aN undef)
 chain: ∀k,es[k]? =some true->(done.getD k false=true↔fW es k<c)
variable{es:List Bool}
def B4: ∀{i j:Nat},i<j->es[i]? =some true->fW es i<fW es j:=by
 induction es with
 |nil=>intro i j _ h;simp at h
 |cons e es ih=>
  intro i j hij h
  cases j with
  |zero=>omega
  |succ j=>
   cases i with
   |zero=>simp at h;subst h;simp [fW]
   |succ i=>
    have:=ih (i:=i) (j:=j) (by omega) (by simpa using h)
    cases e<;>simp [fW]at this ⊢ <;>omega
def tZ: ∀{c k:Nat},c<fW es k-> ∃i,i<k/\es[i]? =some true/\fW es i=c:=by
 induction es with
 |nil=>intro c k h;simp [fW]at h
 |cons e es ih=>
  intro c k h
  cases k with
  |zero=>simp [fW]at h
  |succ k=>
   cases e with
   |false=>
    obtain⟨i,Y,H,Q⟩:=ih (c:=c) (k:=k) (by simpa [fW] using h)
    exact⟨i+1,by omega,by simpa using H,by simpa [fW] using Q⟩
   |true=>
    cases c with
    |zero=>exact⟨0,by omega,rfl,by simp [fW]⟩
    |succ c=>
     obtain⟨i,Y,H,Q⟩:=ih (c:=c) (k:=k) (by simp [fW]at h ⊢;omega)
     exact⟨i+1,by omega,by simpa using H,by simp [fW]at Q ⊢;omega⟩
section
variable{ts:List (OI->Ty)}{Om:Nat->(Nat->OI)->List OE}
end

def SW(n:Int):Option Unit:=if 0<=n then some ()else none
def Bv{n:Int}(h:SW n=some u):0<=n:=by
 unfold SW at h
 split at h
 ·assumption
 ·cases h
section
variable{ty:TypeId}
def Dw(D:E.P.underlying t=some (.slice e))(V:aI E.N G x (K (.slice none 0 0))):b9 E O G ⟨dst,.call ⟨.builtin .len,#[x],#[t]⟩,ty,pos,after,g⟩ (tD (rI .i64) (0:Int)):=
 .of_pure fun a w S _ _ hf=>by
  have Y:a.eval x= .slice none 0 0:=V S a hf
  refine⟨.int .i64 0,?_,dq.2 rfl⟩
  simp [execOp,resolve,invoke,builtin,Builtin.len_,iv D,Y,goInt]
def Dx(D:E.P.underlying t=some (.slice e))(V:aI E.N G x (K (.slice none 0 0))):b9 E O G ⟨dst,.call ⟨.builtin .cap,#[x],#[t]⟩,ty,pos,after,g⟩ (tD (rI .i64) (0:Int)):=
 .of_pure fun a w S _ _ hf=>by
  have Y:a.eval x= .slice none 0 0:=V S a hf
  refine⟨.int .i64 0,?_,dq.2 rfl⟩
  simp [execOp,resolve,invoke,builtin,Builtin.cap_,iv D,Y,goInt]
def F9{hi:Operand}(D:E.P.underlying t=some (.slice T))(ti:TI E.P T sz bytes agg z)(V:aI E.N G x (K (.slice none 0 0)))(hhi:aI E.N G hi (tD (rI k) (0:Int))):
  b9 E O G ⟨dst,.slice t x none (some hi) none,ty,pos,after,g⟩ (K (.slice none 0 0)):=
 .of_pure fun a w S _ _ hf=>by
  have Y:a.eval x= .slice none 0 0:=V S a hf
  have h6:=dq.1 (hhi S a hf)
  refine⟨.slice none 0 0,?_,rfl⟩
  have W:=k0 (P:=E.P) (w:=w) (k:=k) (n:=(0:Int)) (y:=0) (code:= .sliceAcap) (by omega) (by omega)
  simp [execOp,Instr.sliceAt,Y,h6,Instr.slice,iv D,Instr.sliceBounds,W,k0 (k:=k) (n:=(0:Int)) (y:=0) (by omega) (by omega),ti.sizeOf]
end

def tn{α:Type}(n:Int)(z:α):Option (List α):=if 0<=n/\n<=68719476736 then some (List.replicate n.toNat z)else none
def zz{n:Int}{z:α}(h:tn n z=some zs): ∃m:Nat,n=m/\m<=68719476736/\zs=List.replicate m z:=by
 unfold tn at h
 split at h
 ·rename_i hc;exact⟨n.toNat,by omega,by omega,by simpa using h.symm⟩
 ·cases h
def sM{α:Type}{r:Rp α}{x:α}{z:List Value}(V: ∀S,r.rc S z x)(S:SH): ∀n:Nat,o4 r S (List.replicate n z).flatten (List.replicate n x)
 |0=>rfl
 |n+1=>⟨z,_,by rw [List.replicate_succ,List.flatten_cons],V S,sM V S n⟩
def Bf(z:List Value):(List.range z.length).map (fun i=>z[i%z.length]?.getD default)=z:=by
 apply List.ext_getElem?
 intro k
 rcases m0 k z.length with h|h
 ·rw [List.getElem?_map,List.getElem?_range h]
  simp [Nat.mod_eq_of_lt h,h]
 ·rw [Hk (by simpa using h),Hk h]
def m3(z:List Value)(n:Nat):(Builtin.zeroCells z.toArray n).toList=(List.replicate n z).flatten:=by
 unfold Builtin.zeroCells
 simp
 induction n with
 |zero=>simp
 |succ n ih=>
  rw [List.replicate_succ,List.flatten_cons,<-ih,Nat.succ_mul,Nat.add_comm,List.range_add,List.map_append,Bf,List.map_map]
  congr 1
  apply Fh
  intro i _
  simp
def sU(z:List Value)(n sz:Nat)(h:z.length=sz):(madeCells z.toArray (n*sz)).toList=(List.replicate n z).flatten:=by
 subst h
 have:=m3 z n
 unfold Builtin.zeroCells at this
 unfold madeCells
 simpa using this
section
variable{ty:TypeId}
def flat_len(h:z.length=sz)(n:Nat):(List.replicate n z).flatten.length=n*sz:=by
 simp [h]
def Nv{x:α}{n:Int}{y y' :Operand}(ti:TI E.P T sz bytes agg z)(hsz:r.sz=sz)(hz:Nat.beq z.length sz=true)(h128:Nat.ble bytes 2048=true)(D:E.P.underlying t=some (.slice T))(V: ∀S,r.rc S z x)(hy:aI E.N G y (tD (rI k) n))(hy' :aI E.N G y' (tD (rI k') n))(h:tn n x=some zs):
  EffOK E O G ⟨some aN,.makeSlice t y y',ty,pos,after,g⟩ (fun i=>cM r T (i.h 0).1 (i.h 0).2 zs::O) (fun i=>K (an (i.h 0).1 (i.h 0).2 zs.length)):=fun a w S hs ho hf W=>by
 subst hsz
 obtain⟨i,zv,hi,Y,H,Q,h4⟩:=ti.get
 obtain⟨m,rfl,hm,rfl⟩:=zz h
 have hyv:=dq.1 (hy S a hf)
 have hyv' :=dq.1 (hy' S a hf)
 have hz2:z.length=r.sz:=nk hz
 have h128' :=pN h128
 have hbytes:(i.bytes:Int)*(m:Int)<=281474976710656:=by
  have:i.bytes*m<=2048*68719476736:=Nat.mul_le_mul (by omega) hm
  have h5:((i.bytes*m:Nat):Int)<=281474976710656:=by omega
  rwa [Int.natCast_mul]at h5
 have hr:=run_make (P:=E.P) w t T i zv D hi Q k k' (m:Int) (m:Int) (by omega) (Int.le_refl _) hbytes (by omega)
 rw [yJ,Y,h4]at hr
 obtain⟨he,hs',hno⟩:=iG (w:=w) (.cells (madeCells z.toArray (m*r.sz)) T (0,0)) hs
 have hrun:(execOp a.eval ⟨some aN,.makeSlice t y y',ty,pos,after,g⟩).run E.P w= .ok (.value (.slice (some ⟨w.heap.size,0,none⟩) m m)) (w.alloc (.cells (madeCells z.toArray (m*r.sz)) T (0,0))):=by
  simp [execOp,hyv,hyv',hr]
 refine⟨fun c h=>(by cases h),?_⟩
 rw [hrun]
 have hfl:=flat_len hz2 m
 refine⟨_,S,oi (some w.heap.size) m,rfl,he.more fun _ W=>W.elim,hs',pJ ho he (e:=cM r T (some w.heap.size) m (List.replicate m x)) ⟨(List.replicate m z).flatten,⟨_,Aq w _,by simp,by simp only [maxLen];omega,by rw [size_madeCells],?_⟩,sM V S m,fun b W=>by rw [<-oy W];exact hno⟩ (fun b W=>xx (oy W)) W,?_⟩
 ·rw [sU z m r.sz hz2,AI]
  exact sb (by omega)
 ·show _=an _ _ _
  rw [AI];rfl
def GO{x:α}{n:Int}{ae y:Operand}{kn:IntKind}(ti:TI E.P T sz bytes agg z)(hsz:r.sz=sz)(hz:Nat.beq z.length sz=true)(h0:Nat.blt 0 sz=true)(h128:Nat.ble bytes 2048=true)(D:E.P.underlying t=some (.slice T))(ht' :E.P.underlying t' =some (.int kn))(V: ∀S,r.rc S z x)(hs' :aI E.N G ae (K (.slice none 0 0)))(hy:aI E.N G y (tD (rI k) n))(hn:0<n)(h:tn n x=some zs):
  EffOK E O G ⟨some aN,.call ⟨.builtin .append,#[ae,y],#[t,t']⟩,ty,pos,after,g⟩ (fun i=>cM r T (i.h 0).1 (i.h 0).2 zs::O) (fun i=>K (an (i.h 0).1 (i.h 0).2 zs.length)):=fun a w S hs ho hf W=>by
 subst hsz
 obtain⟨i,zv,hi,Y,H,Q,h4⟩:=ti.get
 obtain⟨m,rfl,hm,rfl⟩:=zz h
 have hsv:a.eval ae= .slice none 0 0:=hs' S a hf
 have hyv:=dq.1 (hy S a hf)
 have hz2:z.length=r.sz:=nk hz
 have h128' :=pN h128
 have h0' :0<r.sz:=by simpa [r0] using h0
 have hbytes:m*i.bytes<=281474976710656:=by
  have:m*i.bytes<=68719476736*2048:=Nat.mul_le_mul hm (by omega)
  omega
 have hr:=Lib.run_append_nil_zeros (P:=E.P) w t t' ty T i zv k kn D ht' hi Q m (by omega) (by omega) (by omega) hbytes
 have hge:=grownCap_ge w m 0 T
 have hle:=grownCap_le_maxLen w m 0 T (by simp only [maxLen];omega)
 generalize grownCap w m 0 T=cp at hr hge hle
 obtain⟨C,hC⟩: ∃C,Builtin.zeroCells zv.cells m++Builtin.zeroCells zv.cells (cp-m)=C:=⟨_,rfl⟩
 rw [hC]at hr
 obtain⟨he0,hs0⟩:=vw (w:=w) hs
 obtain⟨he,hs2,hno⟩:=iG (w:=w.drew) (.cells C T (0,0)) hs0
 have hx2:jc rn w S (w.drew.alloc (.cells C T (0,0))) S:=he0.trans he
 have hrun:(execOp a.eval ⟨some aN,.call ⟨.builtin .append,#[ae,y],#[t,t']⟩,ty,pos,after,g⟩).run E.P w= .ok (.value (.slice (some ⟨w.heap.size,0,none⟩) m cp)) (w.drew.alloc (.cells C T (0,0))):=by
  simp [execOp,resolve,invoke,builtin,hsv,hyv,hr]
 refine⟨fun c h=>(by cases h),?_⟩
 rw [hrun]
 have hfl:=flat_len hz2 m
 have hC1:C.toList=(List.replicate m z).flatten++(List.replicate (cp-m) z).flatten:=by
  rw [<-hC,Array.toList_append,h4,m3,m3]
 refine⟨_,S,oi (some w.heap.size) cp,rfl,hx2.more fun _ W=>W.elim,hs2,pJ ho hx2 (e:=cM r T (some w.heap.size) cp (List.replicate m x)) ⟨(List.replicate m z).flatten,⟨C,Aq w.drew _,by simpa using hge,hle,?_,?_⟩,sM V S m,fun b W=>by rw [<-oy W];exact hno⟩ (fun b W=>xx (oy W)) W,?_⟩
 ·have:C.toList.length=cp*r.sz:=by
   rw [hC1,kO,hfl,flat_len hz2,<-ux];congr 1;omega
  simpa using this
 ·rw [hC1,AI,<-hfl,List.take_left]
 ·show _=an _ _ _
  rw [AI];rfl

def Lw{x:α}{y:Operand}(ti:TI E.P T sz bytes agg z)(hsz:r.sz=sz)(hz:Nat.beq z.length sz=true)(D:E.P.underlying t=some (.slice T))(V: ∀S,r.rc S z x)(hone:z.all (·.oneCell')=true)(hs:dz xs lo (xs.length:Int)=some ys)(hy:aI E.N G y (K (mf sz l cap lo.toNat ys.length)))(hzs:xs.take lo.toNat++List.replicate ys.length x=zs)(k:RG E ops h3 rest (cM r T l cap zs::O) G):
  RG E ops h3 (⟨none,.call ⟨.builtin .clear,#[y],#[t]⟩,ty,pos,after,none⟩::rest) (cM r T l cap xs::O) G:= .of rfl fun a w S st=>by
 subst hsz
 subst hzs
 obtain⟨i,zv,hi,Y,H,Q,h4⟩:=ti.get
 have hyv:a.eval y=mf r.sz l cap lo.toNat ys.length:=hy S a st.facts
 have hz2:z.length=r.sz:=nk hz
 obtain⟨lo',m,rfl,hm,h5,h6,rfl⟩:=fb hs
 have hm' :m=xs.length:=by omega
 subst hm'
 rw [Au]at hyv k
 rw [yJ]at hyv k
 by_cases hnil:xs.drop lo' =[]
 ·have hlo:xs.length<=lo' :=CU.1 hnil
  rw [hnil]at hyv k
  have e1:xs.take lo' ++List.replicate ([]:List α).length x=xs:=by simp [sb hlo]
  rw [e1]at k
  have hrun:(execOp a.eval ⟨none,.call ⟨.builtin .clear,#[y],#[t]⟩,ty,pos,after,none⟩).run E.P w= .ok (.value (.tuple #[])) w:=by
   cases l<;>simp [execOp,resolve,invoke,builtin,Builtin.clear_,iv D,hyv,mf]
  refine⟨fun c h=>(by cases h),?_⟩
  rw [hrun]
  exact k _ _ S st
 ·obtain⟨⟨cells,hraw,hrc,hno⟩,hbase⟩:=st.own.1
  have hlt:lo' <xs.length:=by
   rcases m0 lo' xs.length with h|h
   ·exact h
   ·exact absurd (Fj h) hnil
  cases l with
  |none=>have:=hraw.1;omega
  |some b=>
   obtain⟨cur,g1,g2,g3,g4,g5⟩:=hraw
   have hno' :S b=none:=hno b rfl
   have hne: ¬(cap=lo'):=by omega
   have hld:(xs.drop lo').length=xs.length-lo' :=by simp
   have hfl:=flat_len hz2 (xs.length-lo')
   have hones: ∀u∈(List.replicate (xs.length-lo') z).flatten,u.oneCell' =true:=by
    intro u hu
    obtain⟨q,hq,hu⟩:=List.mem_flatten.1 hu
    rw [(List.mem_replicate.1 hq).2]at hu
    exact me.1 hone u hu
   have hmul:xs.length*r.sz<=cur.size:=by rw [g4];exact xu _ g2
   have hfit:lo' *r.sz+(xs.length-lo')*r.sz=xs.length*r.sz:=by rw [<-ux];congr 1;omega
   have hst:=run_storeCells_at E.P b (lo' *r.sz) T (List.replicate (xs.length-lo') z).flatten 0 cur w g1 (by omega) hones
   simp only [zr]at hst
   have hrun:(execOp a.eval ⟨none,.call ⟨.builtin .clear,#[y],#[t]⟩,ty,pos,after,none⟩).run E.P w= .ok (.value (.tuple #[])) (w.setRow b (cur.toList.take (lo' *r.sz)++(List.replicate (xs.length-lo') z).flatten++cur.toList.drop (lo' *r.sz+(List.replicate (xs.length-lo') z).flatten.length)).toArray):=by
    have e1: ∃q,xs.length-lo' =q+1:=⟨xs.length-lo' -1,by omega⟩
    obtain⟨q,hq⟩:=e1
    have e2:a.eval y= .slice (some ⟨b,lo' *r.sz,none⟩) (q+1) (cap-lo'):=by rw [hyv,hld,hq];simp [mf,hne]
    rw [hq]at hst ⊢
    simp [execOp,resolve,invoke,builtin,Builtin.clear_,iv D,e2,zeroValue,typeInfo,hi,Q,h4,m3,hst]
   refine⟨fun c h=>(by cases h),?_⟩
   rw [hrun]
   have hset:=setRow_heap w b cur (cur.toList.take (lo' *r.sz)++(List.replicate (xs.length-lo') z).flatten++cur.toList.drop (lo' *r.sz+(List.replicate (xs.length-lo') z).flatten.length)).toArray T _ g1
   have hl2:(xs.take lo' ++List.replicate (xs.drop lo').length x).length=xs.length:=by simp;omega
   have hsp:o4 r S (cells.take (lo' *r.sz)) (xs.take lo'):=by
    have e:xs=xs.take lo' ++xs.drop lo' :=(qL _ _).symm
    rw [e]at hrc
    have:=(oc hrc).1
    rwa [show(xs.take lo').length=lo' from by simp;omega]at this
   have hcl:((cur.toList.take (lo' *r.sz)++(List.replicate (xs.length-lo') z).flatten++cur.toList.drop (lo' *r.sz+(List.replicate (xs.length-lo') z).flatten.length)).toArray).toList.take ((xs.take lo' ++List.replicate (xs.drop lo').length x).length*r.sz)=cells.take (lo' *r.sz)++(List.replicate (xs.length-lo') z).flatten:=by
    rw [hl2,<-g5,xm,uz (xu _ (by omega))]
    have hlen1:(cur.toList.take (lo' *r.sz)++(List.replicate (xs.length-lo') z).flatten).length=xs.length*r.sz:=by
     rw [kO,hfl,As,Fc,uz (by omega)];exact hfit
    rw [<-hlen1,List.take_left]
   obtain⟨q1,q2,q3⟩:=lV (O:=O) st.sat (cM r T (some b) cap xs) (cM r T (some b) cap (xs.take lo' ++List.replicate (xs.drop lo').length x)) st.own (fun k=>⟨fun h=>(oy h).symm,fun h=>by rw [h];rfl⟩) (fun k=>⟨fun h=>(oy h).symm,fun h=>by rw [h];rfl⟩)
    (w' :=w.setRow b (cur.toList.take (lo' *r.sz)++(List.replicate (xs.length-lo') z).flatten++cur.toList.drop (lo' *r.sz+(List.replicate (xs.length-lo') z).flatten.length)).toArray) ⟨rfl,rfl,rfl,by simp [World.setRow],jW _⟩ (fun k hk=>setRow_other w b k _ hk)
    ⟨cells.take (lo' *r.sz)++(List.replicate (xs.length-lo') z).flatten,⟨_,hset,by rw [hl2];exact g2,g3,by simp only [CS,kO,As,zX,Fc];omega,hcl⟩,by rw [hld];exact pf hsp (sM V S _),fun k hk=>by rw [<-oy hk];exact hno'⟩ hno'
   ·exact k _ _ S ⟨st.ext.step q1 (fun c hc=>hbase c (by rw [hc];rfl)),q2,q3,st.facts⟩
end

def mg{α:Type}(r:Rp α)(n:Nat):Rp (List α) where
 sz:=n*r.sz
 agg:=true
 rc:=fun S cs xs=>xs.length=n/\o4 r S cs xs
 mono:=fun h ⟨Y,H⟩=>⟨Y,pQ h H⟩
 len:=fun⟨Y,H⟩=>by rw [jl H,Y]
 one:=fun⟨_,H⟩=>vC H
 sc:=fun h=>by cases h
section
section
variable{ty:TypeId}
def CE{i:Int}(D:E.P.underlying t=some (.array n e))(ti:TI E.P e sz bytes agg z)(hsz:r.sz=sz)(V:aI E.N G x (cH (mg r n) xs))(hi:aI E.N G ix (tD (rI k) i))(hy:ga xs i=some y):
  b9 E O G ⟨dst,.indexAddr t x ix,ty,pos,after,g⟩ (cH r y):=
 .of_pure fun a w S _ _ hf=>by
  subst hsz
  obtain⟨b,off,c,T,fr,Y,H,Q,h4⟩:=V S a hf
  have h5:a.eval ix= .int k i:=dq.1 (hi S a hf)
  obtain⟨h0,hy'⟩:=lQ hy
  have hlt:i.toNat<xs.length:=(pZ.1 hy').1
  have hc:0<=i/\i<(n:Int):=⟨h0,by omega⟩
  refine⟨.pointer (some ⟨b,off+i.toNat*r.sz,none⟩),?_,b,_,c,T,fr,rfl,H,?_⟩
  ·simp [execOp,Y,h5,Instr.indexAt,asIntOf,iv D,Instr.sureAddr,hc,ti.sizeOf,hZ]
  ·have h6:=xJ h4 hy'
   rw [wi,xm,sa]at h6
   have hmul:i.toNat*r.sz+r.sz<=n*r.sz:=by rw [<-Nat.succ_mul];exact xu _ (by omega)
   have hmin:min r.sz ((mg r n).sz-i.toNat*r.sz)=r.sz:=by
    show min r.sz (n*r.sz-i.toNat*r.sz)=r.sz
    omega
   rwa [hmin]at h6
def iC{i:Int}(D:E.P.underlying t=some (.array n e))(ti:TI E.P e sz bytes agg z)(hm:Z (mg r n) T b xs∈O)(V:aI E.N G x (K (M b 0)))(hi:aI E.N G ix (tD (rI k) i))(hy:ga xs i=some y):
  b9 E O G ⟨dst,.indexAddr t x ix,ty,pos,after,g⟩ (K (M b (i.toNat*sz))):=
 .of_pure fun a w S _ ho hf=>by
  have Y:a.eval x=M b 0:=V S a hf
  have h5:a.eval ix= .int k i:=dq.1 (hi S a hf)
  obtain⟨⟨_,c,_,h4,_⟩,_⟩:=ho.mem _ hm
  obtain⟨h0,hy'⟩:=lQ hy
  have hlt:i.toNat<xs.length:=(pZ.1 hy').1
  have hc:0<=i/\i<(n:Int):=⟨h0,by omega⟩
  refine⟨_,?_,rfl⟩
  simp [execOp,Y,h5,M,Instr.indexAt,asIntOf,iv D,Instr.sureAddr,hc,ti.sizeOf,hZ]
end
def OV{i:Int}(hy:ga xs i=some y){cs:List Value}(h:(mg r n).rc S cs xs):r.rc S ((cs.drop (i.toNat*r.sz)).take r.sz) y:=xJ h.2 (lQ hy).2
def xN{i:Int}{p:Operand}{ty:TypeId}(ti:TI E.P U sz bytes agg z)(hsz:r.sz=sz)(hag:r.agg=agg)(hm:Z (mg r n) T b xs∈O)(hy:ga xs i=some y)(hp:aI E.N G p (K (M b (i.toNat*r.sz)))):b9 E O G ⟨dst,.load U p,ty,pos,after,g⟩ (tD r y):=
 .of_pure fun a w S _ ho hf=>by
  have Y:a.eval p=M b (i.toNat*r.sz):=hp S a hf
  obtain⟨⟨_,cur,h5,h6⟩,_⟩:=ho.mem _ hm
  have h7:=OV hy h6
  refine⟨_,?_,_,rfl,h7⟩
  simp [execOp,Y,M,Instr.loadAt,Instr.sureAddr,jF ti h5 hsz hag h7]
def vQ{v:α}{i:Int}{p:Operand}{ty:TypeId}(ti:TI E.P U sz bytes agg z)(hsz:r.sz=sz)(hy:ga xs i=some y)(hz:xs.set i.toNat v=zs)(hp:aI E.N G p (K (M b (i.toNat*r.sz))))(hv:aI E.N G x (tD r v))(k:RG E ops h3 rest (Z (mg r n) T b zs::O) G):RG E ops h3 (⟨none,.store U p x,ty,pos,after,none⟩::rest) (Z (mg r n) T b xs::O) G:= .of rfl fun a w S st=>by
 subst hz
 have Y:a.eval p=M b (i.toNat*r.sz):=hp S a st.facts
 obtain⟨ds,H,Q⟩:=hv S a st.facts
 obtain⟨⟨hno,cur,h5,h6⟩,_⟩:=st.own.1
 obtain⟨h0,hy'⟩:=lQ hy
 have hlt:i.toNat<xs.length:=(pZ.1 hy').1
 have hl:=jl h6.2
 simp only [Fc]at hl
 have hmul:i.toNat*r.sz+r.sz<=xs.length*r.sz:=by rw [<-Nat.succ_mul];exact xu _ hlt
 obtain⟨w',hr,e1,e2,e3,e4,e5,e6⟩:=iY ti hsz Q h5 (off:=i.toNat*r.sz) (by omega)
 have hrun:(execOp a.eval ⟨none,.store U p x,ty,pos,after,none⟩).run E.P w= .ok .skip w' :=by
  simp [execOp,Y,H,Instr.storeAt,M,Instr.sureAddr,hr]
 refine⟨fun c h=>(by cases h),?_⟩
 rw [hrun]
 obtain⟨g1,g2,g3⟩:=lV (O:=O) st.sat (Z (mg r n) T b xs) (Z (mg r n) T b (xs.set i.toNat v)) st.own (fun _=>qM) (fun _=>qM) ⟨e1,e2,e3,e4.1,e4.2⟩ e6 ⟨hno,_,e5,by rw [zW];exact h6.1,Ad Q h6.2 hlt⟩ hno
 exact k _ _ S ⟨st.ext.step g1 (fun c hc=>st.own.1.2 c hc),g2,g3,st.facts⟩
end
def wr{α:Type}{r:Rp α}{c:Value}{x:α}(h: ∀S,r.rc S [c] x)(S:SH): ∀n,o4 r S (List.replicate n c) (List.replicate n x)
 |0=>rfl
 |n+1=>⟨[c],_,rfl,h S,wr h S n⟩
def yu{c:Value}{x:α}(n:Nat)(h: ∀S,r.rc S [c] x): ∀S,(mg r n).rc S (List.replicate n c) (List.replicate n x):=fun S=>⟨AI,wr h S n⟩
def RB(n:Nat):Option Unit:=if n<=68719476736 then some ()else none
def VW(n:Int):Option Unit:=if 0<n then some ()else none
def MW{n:Int}(h:VW n=some u):0<n:=by
 unfold VW at h
 split at h
 ·assumption
 ·cases h
def NX{e:Exit}(mm:Bool)(r:Rp α)(T:TypeId)(h:AT E h3 e (kP mm r T none 0 []::O) G):AT E h3 e O G:=fun a w S st=>h a w S (st.fresh mm r T)
def DQ{x:α}(h:dz xs lo (xs.length:Int)=some ys)(hz:xs.take lo.toNat++List.replicate ys.length x=zs):zs.length=xs.length:=by
 obtain⟨l,m,rfl,hm,Y,H,rfl⟩:=fb h
 have hm' :m=xs.length:=by omega
 subst hm'
 rw [<-hz]
 simp
 omega

def tC(n:FuncId)(cts:List Ty):Ty where
 p:=fun S v=> ∃cap:List Value,v= .func (.func n) #[] cap.toArray/\uw S cts cap
 mono:=fun h ⟨cap,e,k⟩=>⟨cap,e,uw.mono h k⟩
section
section
variable{ty:TypeId}
def sQ{fid:FuncId}{caps:List Operand}{cts:List Ty}(hcap:js E.N G caps cts):b9 E O G ⟨dst,.makeFunc (.func fid) #[] caps.toArray,ty,pos,after,g⟩ (tC fid cts):=
 .of_pure fun a w S _ _ hf=>⟨.func (.func fid) #[] (caps.map a.eval).toArray,by simp [execOp,Instr.makeFunc],_,rfl,hcap.tys hf⟩
end
def qG{n:FuncId}{cts:List Ty}{ty:TypeId}{fo:Operand}{xs:List Operand}(O1 Or:List OE){t:OI->Ty}{O2:OI->List OE}(hO:O=O1++Or)(hc:ak E.P n=true)(hs:bd E.P n (ts++cts) O1 t O2)(hf:aI E.N G fo (tC n cts))(V:js E.N G xs ts)(hpost: ∀i,O2 i++Or=post i):
  EffOK E O G ⟨some aN,.call ⟨.value fo,xs.toArray,ats⟩,ty,pos,after,g⟩ post t:=fun a w S hsat ho hF W=>by
 subst hO
 obtain rfl:(fun i=>O2 i++Or)=post:=funext hpost
 obtain⟨cap,e,hcap⟩:=hf S a hF
 have hr:(execOp a.eval ⟨some aN,.call ⟨.value fo,xs.toArray,ats⟩,ty,pos,after,g⟩).run E.P w= .ok (.enter n ((xs.map a.eval).toArray++cap.toArray)) w:=by
  simp [execOp,resolve,e,Deferred.ofValue,invoke,gA hc]
 refine⟨fun c h=>(by cases h),?_⟩
 rw [hr]
 have e2:(xs.map a.eval).toArray++cap.toArray=((xs.map a.eval)++cap).toArray:=by simp
 rw [e2]
 exact(hs w S _ hsat ((V.tys hF).append hcap) (ow ho).1.weak).mono fun en w' ⟨i,v,S',he,hv,Y,H,Q,h4⟩=>⟨_,he,v,S',i,rfl,Y.more fun b ⟨f,hf,W⟩=>⟨f,AH _ hf,W⟩,H,dL.turn ho W Y Q h4,hv⟩
end

def CJ{α:Type}(xs:List α)(lo:Int)(n:Nat)(i:Int):Option α:=if 0<=i/\i<(n:Int)then ga xs (lo+i)else none
def vK{i:Int}(h:CJ xs lo n i=some y):0<=i/\i<(n:Int)/\ga xs (lo+i)=some y:=by
 unfold CJ at h
 split at h
 ·rename_i hc;exact⟨hc.1,hc.2,h⟩
 ·cases h
def yR(h:dz xs lo hi=some ys):0<=lo:=by
 obtain⟨l,m,rfl,_,_,_,_⟩:=fb h
 omega
section
def oW(hm:kP mm r T l cap xs∈O)(hs:dz xs lo hi=some ys)(h:(l=none->ys.length=0)/\ys.length<=maxLen->RG E ops h3 rest O G):RG E ops h3 rest O G:=fun a w S st=>by
 refine h ?_ a w S st
 obtain⟨cells,Y,_⟩:=(st.own.mem _ hm).1
 obtain⟨l',m,_,_,_,h8,rfl⟩:=fb hs
 have hlen:((xs.take m).drop l').length<=xs.length:=by simp;omega
 cases l with
 |none=>have:=Y.1;exact⟨fun _=>by omega,by omega⟩
 |some b=>obtain⟨cur,_,g2,g3,_⟩:=Y;exact⟨fun h=>(by cases h),by omega⟩
section
variable{ty:TypeId}
def Jy{lo:Nat}(D:E.P.underlying t=some (.slice e))(hv:l=none->n=0)(V:aI E.N G x (K (mf sz l cap lo n))):
  b9 E O G ⟨dst,.call ⟨.builtin .len,#[x],#[t]⟩,ty,pos,after,g⟩ (tD (rI .i64) (n:Int)):=
 .of_pure fun a w S _ ho hf=>by
  have Y:a.eval x=mf sz l cap lo n:=V S a hf
  obtain⟨ad,c,Q⟩: ∃ad c,mf sz l cap lo n= .slice ad n c:=by
   cases l with
   |none=>rw [hv rfl];exact⟨none,0,rfl⟩
   |some b=>exact⟨_,_,rfl⟩
  refine⟨.int .i64 n,?_,dq.2 rfl⟩
  simp [execOp,resolve,invoke,builtin,Builtin.len_,iv D,Y,Q,goInt]
def sn{i:Int}(D:E.P.underlying t=some (.slice e))(ti:TI E.P e sz bytes agg z)(hsz:r.sz=sz)(hm:kP mm r U l cap xs∈O)(hl0:0<=lo)(V:aI E.N G x (K (mf sz l cap lo.toNat n)))(hi' :aI E.N G ix (tD (rI k) i))(hy:CJ xs lo n i=some y):
  b9 E O G ⟨dst,.indexAddr t x ix,ty,pos,after,g⟩ (K (xg l ((lo+i).toNat*sz+0))):=
 .of_pure fun a w S _ ho hf=>by
  subst hsz
  have Y:a.eval x=mf r.sz l cap lo.toNat n:=V S a hf
  have Q:a.eval ix= .int k i:=dq.1 (hi' S a hf)
  obtain⟨hi0,hin,hxi⟩:=vK hy
  obtain⟨_,hx'⟩:=lQ hxi
  obtain⟨b,cur,rfl,_,hle,_⟩:=uT (ho.mem _ hm).1 hx'
  have hlt2:(lo+i).toNat<xs.length:=(pZ.1 hx').1
  have hne: ¬(cap=lo.toNat):=by omega
  refine⟨_,?_,rfl⟩
  have hc:0<=i/\i<(n:Int):=⟨hi0,hin⟩
  have e1:(lo+i).toNat=lo.toNat+i.toNat:=by omega
  simp [execOp,Y,Q,mf,hne,Instr.indexAt,asIntOf,iv D,hc,ti.sizeOf,hZ,xg,M,e1,ux]
end
end

section
variable{ty:TypeId}{l:List Oper}
end

def sq{κ β:Type} [DecidableEq κ]:List (κ×β)->κ->Option β
 |[],_=>none
 |p::m,k=>if p.1=k then some p.2 else sq m k
def fi{κ β:Type} [DecidableEq κ]:List (κ×β)->κ->β->List (κ×β)
 |[],k,v=>[(k,v)]
 |p::m,k,v=>if p.1=k then(k,v)::m else p::fi m k v
def Hc{κ:Type}(P:Program)(kt:TypeId)(kv:κ->Value):Prop:= ∃aN,P.underlying kt=some aN/\(∀a,MapKept.IsKey aN (kv a))/\ ∀a b,kv a=kv b->a=b
def Qj(k:IntKind)(n:Int):Value:= .int k n
def hE{kt:TypeId}(h:P.underlying kt=some (.int k)):Hc P kt (Qj k):=⟨_,h,fun _=>rfl,fun a b e=>by injection e⟩
structure MV(β:Type) where
 p:World->SH->β->Option Nat×Nat->Value->Prop
 here: ∀{w S y o v},p w S y o v-> ∀j,o.1=some j->j<w.heap.size
 kept: ∀{C w w' S S' y o v},p w S y o v->jc C w S w' S' ->(∀j,o.1=some j-> ¬C j)->p w' S' y o v
def JC{β:Type}(ty:β->Ty):MV β where
 p:=fun _ S y o v=>o.1=none/\(ty y).p S v
 here:=fun h j hj=>by rw [h.1]at hj;cases hj
 kept:=fun h k _=>⟨h.1,(ty _).mono k.keep h.2⟩
section
variable{κ:Type} [DecidableEq κ]{hx:MV β}{kv:κ->Value}{aN:TypeDesc}{k:κ}
def ut(hx:MV β)(kv:κ->Value)(w:World)(S:SH)(h:Option κ):List MapEntry->List (Option Nat×Nat)->List (κ×β)->Prop
 |[],[],[]=>True
 |e::es,o::os,q::m=>e.key=kv q.1/\(if h=some q.1 then o.1=none else hx.p w S q.2 o e.val)/\(∀o' ∈os,∀j,o.1=some j->o'.1≠some j)/\(∀p∈m,p.1≠q.1)/\ut hx kv w S h es os m
 |_,_,_=>False
def DI{h:Option κ}: ∀{es:List MapEntry} {os:List (Option Nat×Nat)} {m:List (κ×β)},ut hx kv w S h es os m-> ∀o∈os,∀j,o.1=some j->j<w.heap.size
 |[],[],[],_,o,ho,_,_=>by cases ho
 |e::es,o::os,q::m,⟨_,H,_,_,h5⟩,o',ho,j,hj=>by
  rcases jy.1 ho with rfl|ho
  ·split at H
   ·rw [H]at hj;cases hj
   ·exact hx.here H j hj
  ·exact DI h5 o' ho j hj
def yk{C:Nat->Prop}(k:jc C w S w' S'){h:Option κ}: ∀{es:List MapEntry} {os:List (Option Nat×Nat)} {m:List (κ×β)},ut hx kv w S h es os m->(∀o∈os,∀j,o.1=some j-> ¬C j)->ut hx kv w' S' h es os m
 |[],[],[],_,_=>trivial
 |e::es,o::os,q::m,⟨Y,H,Q,h4,h5⟩,hC=>⟨Y,by
  split
  ·rename_i hh;rw [bu hh]at H;exact H
  ·rename_i hh;rw [aZ hh]at H;exact hx.kept H k (hC o (nV ..)),Q,h4,yk k h5 fun o' ho=>hC o' (o8 _ ho)⟩
def zP{h:Option κ}: ∀{es:List MapEntry} {os:List (Option Nat×Nat)} {m:List (κ×β)},ut hx kv w S h es os m->(∀p∈m,h≠some p.1)->ut hx kv w S none es os m
 |[],[],[],_,_=>trivial
 |e::es,o::os,q::m,⟨Y,H,Q,h4,h5⟩,hk=>⟨Y,by
  rw [aZ (hk q (nV ..))]at H
  rw [aZ (by simp)];exact H,Q,h4,zP h5 fun p hp=>hk p (o8 _ hp)⟩
def qo(hd: ∀a,MapKept.IsKey aN (kv a))(hi: ∀a b,kv a=kv b->a=b)(a b:κ):Instr.sameNow aN (kv a) (kv b)=some (decide (a=b)):=by
 obtain⟨r,Y,H⟩:=MapKept.sameNow_of_keys (hd a) (hd b)
 rw [Y]
 by_cases h:a=b
 ·subst h;rw [H.2 rfl];simp
 ·rw [decide_eq_false h]
  cases r with
  |false=>rfl
  |true=>exact absurd (hi _ _ (H.1 rfl)) h
def tS(hd: ∀a,MapKept.IsKey aN (kv a))(hi: ∀a b,kv a=kv b->a=b): ∀{es:List MapEntry} {os:List (Option Nat×Nat)} {m:List (κ×β)} (i:Nat),ut hx kv w S none es os m->
  ∃os',(∀x∈os',x∈os\/x.1=none)/\ut hx kv w S (some k) es os' m/\
   ((sq m k=none/\Instr.findNow aN (kv k) es i=some none)\/ ∃(y:β) (o:Option Nat×Nat) (e:MapEntry) (j:Nat),sq m k=some y/\o∈os/\hx.p w S y o e.val/\Instr.findNow aN (kv k) es i=some (some (j,e.val))/\ ∀x∈os',∀q,o.1=some q->x.1≠some q)
 |[],[],[],i,_=>⟨[],fun x V=>(by cases V),trivial,.inl ⟨rfl,rfl⟩⟩
 |e::es,o::os,q::m,i,⟨Y,H,Q,h4,h5⟩=>by
  rw [aZ (by simp)]at H
  by_cases hk:q.1=k
  ·refine⟨(none,0)::os,fun x V=>?_,⟨Y,by rw [bu (by rw [hk])],fun _ _ _ hj=>(by cases hj),h4,?_⟩,.inr ⟨q.2,o,e,i,by unfold sq;rw [bu hk],nV ..,H,?_,fun x V j hj=>?_⟩⟩
   ·rcases jy.1 V with rfl|V
    ·exact .inr rfl
    ·exact .inl (o8 _ V)
   ·have: ∀{es:List MapEntry} {os:List (Option Nat×Nat)} {m:List (κ×β)},ut hx kv w S none es os m->(∀p∈m,p.1≠k)->ut hx kv w S (some k) es os m:=by
     intro es
     induction es with
     |nil=>intro os m h _;cases os<;>cases m<;>first|trivial|exact h.elim
     |cons e es ih=>
      intro os m h hm
      cases os with
      |nil=>cases m<;>exact h.elim
      |cons o os=>
       cases m with
       |nil=>exact h.elim
       |cons q m=>
        obtain⟨g1,g2,g3,g4,g5⟩:=h
        rw [aZ (by simp)]at g2
        exact⟨g1,by rw [aZ (fun e=>hm q (nV ..) (oy e).symm)];exact g2,g3,g4,ih g5 fun p hp=>hm p (o8 _ hp)⟩
    exact this h5 (fun p hp=>by rw [<-hk];exact h4 p hp)
   ·unfold Instr.findNow
    rw [Y,qo hd hi,hk,decide_eq_true rfl]
   ·rcases jy.1 V with rfl|V
    ·exact fun e=>by cases e
    ·exact Q x V j hj
  ·obtain⟨os',g1,g2,g3⟩:=tS hd hi (i+1) h5
   refine⟨o::os',fun x V=>?_,⟨Y,by rw [aZ (fun e=>hk (oy e).symm)];exact H,fun o' ho' j hj=>?_,h4,g2⟩,?_⟩
   ·rcases jy.1 V with rfl|V
    ·exact .inl (nV ..)
    ·exact(g1 x V).imp (o8 _) id
   ·rcases g1 o' ho' with h|h
    ·exact Q o' h j hj
    ·rw [h];exact fun e=>by cases e
   ·have hf:Instr.findNow aN (kv k) (e::es) i=Instr.findNow aN (kv k) es (i+1):=by
     conv=>lhs;unfold Instr.findNow
     rw [Y,qo hd hi,decide_eq_false (fun e=>hk e.symm)]
    have hm:sq (q::m) k=sq m k:=by conv=>lhs;unfold sq;rw [aZ hk]
    rw [hf,hm]
    refine g3.imp id fun⟨y,o1,e1,j,f1,f2,f3,f4,f5⟩=>⟨y,o1,e1,j,f1,o8 _ f2,f3,f4,fun x V q hq=>?_⟩
    rcases jy.1 V with rfl|V
    ·exact fun e=>Q o1 f2 q e hq
    ·exact f5 x V q hq
def Gi(x:α)(xs:List α)(j:Nat)(f:α->α):(x::xs).modify (j+1) f=x::xs.modify j f:=by simp [List.modify_succ_cons]
def DK(hd: ∀a,MapKept.IsKey aN (kv a))(hi: ∀a b,kv a=kv b->a=b){y:β}{o:Option Nat×Nat}{v:Value}{born:Nat}(hv:hx.p w S y o v): ∀{es:List MapEntry} {os:List (Option Nat×Nat)} {m:List (κ×β)} (i:Nat),ut hx kv w S (some k) es os m->(∀o' ∈os,∀j,o.1=some j->o'.1≠some j)->
    ∃os',(∀x∈os',x∈os\/x=o)/\
      ((∃(j:Nat) (e:MapEntry),Instr.findNow aN (kv k) es i=some (some (i+j,e.val))/\es[j]? =some e/\e.key=kv k/\ut hx kv w S none (es.modify j fun e=>{e with key:=kv k,val:=v}) os' (fi m k y))\/
        (Instr.findNow aN (kv k) es i=some none/\ut hx kv w S none (es++[⟨kv k,v,born⟩]) os' (fi m k y)))
  |[],[],[],i,_,_=>⟨[o],fun x V=> .inr (Cp.1 V),.inr ⟨rfl,⟨rfl,by rw [aZ (by simp)];exact hv,fun _ h=>(by cases h),fun _ h=>(by cases h),trivial⟩⟩⟩
  |e::es,o1::os,q::m,i,⟨Y,H,Q,h4,h5⟩,ha=>by
    by_cases hk:q.1=k
    · refine⟨o::os,fun x V=>?_,.inl ⟨0,e,?_,rfl,by rw [Y,hk],?_⟩⟩
      · rcases jy.1 V with rfl|V
        · exact .inr rfl
        · exact .inl (o8 _ V)
      · unfold Instr.findNow
        rw [Y,qo hd hi,hk,decide_eq_true rfl]
        rfl
      · unfold fi
        rw [bu hk,List.modify_zero_cons]
        exact⟨rfl,by rw [aZ (by simp)];exact hv,fun o' ho' =>ha o' (o8 _ ho'),fun p hp=>by rw [<-hk];exact h4 p hp,
          zP h5 fun p hp e=>h4 p hp (by rw [hk];exact(oy e).symm)⟩
    · obtain⟨os',g1,g2⟩:=DK hd hi (born:=born) hv (i+1) h5 fun o' ho' =>ha o' (o8 _ ho')
      rw [aZ (fun e=>hk (oy e).symm)]at H
      have hf:Instr.findNow aN (kv k) (e::es) i=Instr.findNow aN (kv k) es (i+1):=by
        conv=>lhs;unfold Instr.findNow
        rw [Y,qo hd hi,decide_eq_false (fun e=>hk e.symm)]
      have hm:fi (q::m) k y=q::fi m k y:=by conv=>lhs;unfold fi;rw [aZ hk]
      have hap: ∀o' ∈os',∀j,o1.1=some j->o'.1≠some j:=fun o' ho' j hj=>by
        rcases g1 o' ho' with h|rfl
        · exact Q o' h j hj
        · exact fun e=>ha o1 (nV ..) j e hj
      have hne: ∀p∈fi m k y,p.1≠q.1:=by
        have: ∀m:List (κ×β),(∀p∈m,p.1≠q.1)-> ∀p∈fi m k y,p.1≠q.1:=by
          intro m
          induction m with
          |nil=>intro _ p hp;rw [Cp.1 hp];exact fun e=>hk e.symm
          |cons p0 m ih=>
            intro hm p hp
            unfold fi at hp
            split at hp
            · rcases jy.1 hp with rfl|hp
              · exact fun e=>hk e.symm
              · exact hm p (o8 _ hp)
            · rcases jy.1 hp with rfl|hp
              · exact hm _ (nV ..)
              · exact ih (fun p hp=>hm p (o8 _ hp)) p hp
        exact this m h4
      rw [hf,hm]
      refine⟨o1::os',fun x V=>?_,g2.imp (fun⟨j,e',f1,f2,f3,f4⟩=>⟨j+1,e',by rw [f1];congr 3;omega,by simpa using f2,f3,?_⟩) fun⟨f1,f2⟩=>⟨f1,?_⟩⟩
      · rcases jy.1 V with rfl|V
        · exact .inl (nV ..)
        · exact(g1 x V).imp (o8 _) id
      · rw [Gi]
        exact⟨Y,by rw [aZ (by simp)];exact H,hap,hne,f4⟩
      · exact⟨Y,by rw [aZ (by simp)];exact H,hap,hne,f2⟩
def DH{h:Option κ}: ∀{es:List MapEntry} {os:List (Option Nat×Nat)} {m:List (κ×β)},ut hx kv w S h es os m-> ∀x∈es,∃q∈m,x.key=kv q.1
 |[],[],[],_,x,V=>by cases V
 |e::es,o::os,q::m,⟨Y,_,_,_,h5⟩,x,V=>by
  rcases jy.1 V with rfl|V
  ·exact⟨q,nV ..,Y⟩
  ·obtain⟨q',g1,g2⟩:=DH h5 x V
   exact⟨q',o8 _ g1,g2⟩
def Lj(hd: ∀a,MapKept.IsKey aN (kv a)){h:Option κ}{es:List MapEntry}{os:List (Option Nat×Nat)}{m:List (κ×β)}(h4:ut hx kv w S h es os m)(g1:Instr.findNow aN (kv k) es i=some none){x:MapEntry}(V:x∈es):x.key≠kv k:=by
 rcases MapKept.findNow_spec (hd k) es i (fun y hy=>by obtain⟨q,_,e⟩:=DH h4 y hy;rw [e];exact hd _)with⟨_,H⟩|⟨j,e,H,_⟩
 ·exact H x V
 ·rw [g1]at H;cases H
def xQ(hx:MV β)(kv:κ->Value)(b:Nat)(h:Option κ)(os:List (Option Nat×Nat))(m:List (κ×β)):OE where
 fp:=fun j=>j=b\/ ∃o∈os,o.1=some j
 p:=fun w S=>S b=none/\(∀o∈os,o.1≠some b)/\ ∃es clock,w.heap[b]? =some (.map es clock)/\ut hx kv w S h es.toList os m/\MapKept.Stamped es clock
 here:=by
  intro w S ⟨_,_,es,clock,Q,h4,_⟩ j hj
  rcases hj with rfl|⟨o,ho,hj⟩
  ·exact(D9.1 Q).1
  ·exact DI h4 o ho j hj
 kept:=by
  intro C w w' S S' ⟨Y,H,es,clock,Q,h4,hst⟩ k hC
  have hlt:=(D9.1 Q).1
  exact⟨by rw [k.old b hlt (hC b (.inl rfl))];exact Y,H,es,clock,by rw [k.heap b hlt (hC b (.inl rfl))];exact Q,yk k h4 (fun o ho j hj=>hC j (.inr ⟨o,ho,hj⟩)),hst⟩
def sr(b:Nat):Value:= .map (some b)
end
section
variable{κ:Type} [DecidableEq κ]{hx:MV β}{kv:κ->Value}{os:List (Option Nat×Nat)}{m:List (κ×β)}{k:κ}{kt et:TypeId}{i v:Operand}{dst:Option Nat}{ty:TypeId}
def Kg(N:Fr)(G:kN)(x:Operand)(u:Value):Prop:= ∀S a,bR N S a G->a.eval x=u
def ro{N:Fr}{q:IntKind}{n:Int}(h:aI N G x (tD (rI q) n)):Kg N G x (Qj q n):=fun S a hf=>dq.1 (h S a hf)
def ZV(P:Program)(T:TypeId)(z:Value):Prop:=(P.info? T).bind (·.zero)=some z
def ZV.run{z:Value}(h:ZV P T z)(w:World):(zeroValue T).run P w= .ok z w:=by
 unfold ZV at h
 cases hi:P.info? T with
 |none=>rw [hi]at h;cases h
 |some i=>
  rw [hi]at h
  have h' :i.zero=some z:=h
  simp [zeroValue,typeInfo,hi,h']
def B6(hx:MV β)(kv:κ->Value)(hd:Nat.blt aN E.N.n=true)(k: ∀b,RG E ops h3 rest (xQ hx kv b none [] []::O) ((aN,K (sr b))::G)):
  RG E ops h3 (⟨some aN,.makeMap t none,ty,pos,after,none⟩::rest) O G:= .of rfl fun a w S st=>by
 obtain⟨he,hs',hno⟩:=iG (w:=w) (.map #[] 0) st.sat
 have hrun:(execOp a.eval ⟨some aN,.makeMap t none,ty,pos,after,none⟩).run E.P w= .ok (.value (sr w.heap.size)) (w.alloc (.map #[] 0)):=by
  simp [execOp,Instr.makeMap,sr]
 refine⟨fun c h=>(by cases h),?_⟩
 rw [hrun]
 exact k w.heap.size _ _ S ⟨st.ext.step0 he,hs',pJ st.own he ⟨hno,fun _ h=>(by cases h),#[],0,Aq w _,trivial,MapKept.stamped_empty 0⟩ (fun b W=>by
  rcases W with rfl|⟨_,h,_⟩
  ·exact jW _
  ·cases h) st.base_le,st.facts.put hd rfl⟩
def pB{kk:Value}{es:Array MapEntry}{clock:Nat}{q:TypeDesc}{z:Value}{u:Option (Nat×Value)}(hm:P.underlying t=some (.map kt et))(hq:P.underlying kt=some q)(hk:MapKept.IsKey q kk)(W:w.heap[b]? =some (.map es clock))(hz:ZV P et z)(hf:Instr.findNow q kk es.toList 0=some u)(c:Bool):(Instr.lookup t (sr b) kk c).run P w= .ok (if c then .tuple #[(u.map (·.2)).getD z,.bool u.isSome]else(u.map (·.2)).getD z) w:=by
 cases u with
 |none=>simp [Instr.lookup,sr,iv hm,Ja W,I8 hq hk,MapKept.run_findKey hq hf,hz.run,Result.andThen]
 |some r=>simp [Instr.lookup,sr,iv hm,Ja W,I8 hq hk,MapKept.run_findKey hq hf,Result.andThen]
def Gc{γ:β->Ty}{z:β}{zv:Value}(hm:E.P.underlying t=some (.map kt et))(hk:Hc E.P kt kv)(hz:ZV E.P et zv)(hzt: ∀S,(γ z).p S zv)(hmem:xQ (JC γ) kv b none os m∈O)(V:aI E.N G x (K (sr b)))(hi:Kg E.N G i (kv k)):
  b9 E O G ⟨dst,.lookup t x i true,ty,pos,after,g⟩ (tT [γ ((sq m k).getD z),tD rB (sq m k).isSome]):= .of_pure fun a w S hs ho hf=>by
 obtain⟨⟨_,_,es,clock,Q,h4,_⟩,_⟩:=dL.mem ho _ hmem
 obtain⟨q,hq,hd,hinj⟩:=hk
 have Y:a.eval x=sr b:=V S a hf
 have H:a.eval i=kv k:=hi S a hf
 obtain⟨_,_,_,h5⟩:=tS hd hinj (k:=k) 0 h4
 rcases h5 with⟨g1,g2⟩|⟨y,o,e,j,g1,g2,g3,g4,g5⟩
 ·refine⟨.tuple #[zv,.bool false],by simp [execOp,Y,H,pB hm hq (hd k) Q hz g2],[zv,.bool false],rfl,by rw [g1];exact hzt S,ie.2 (by rw [g1];rfl),trivial⟩
 ·refine⟨.tuple #[e.val,.bool true],by simp [execOp,Y,H,pB hm hq (hd k) Q hz g4],[e.val,.bool true],rfl,by rw [g1];exact g3.2,ie.2 (by rw [g1];rfl),trivial⟩
def yT{kk:Value}{es:Array MapEntry}{clock:Nat}{q:TypeDesc}{val:Value}(hm:P.underlying t=some (.map kt et))(hq:P.underlying kt=some q)(hk:MapKept.IsKey q kk)(W:w.heap[b]? =some (.map es clock)):
  (Instr.findNow q kk es.toList 0=some none->(Instr.mapUpdate t (sr b) kk val).run P w= .ok () {w with heap:=w.heap.setIfInBounds b (.map (es.push ⟨kk,val,clock⟩) (clock+1))})/\
  (∀j e,Instr.findNow q kk es.toList 0=some (some (j,e))->(∀e',es.toList[j]? =some e' ->e'.key=kk)->(∃e',es.toList[j]? =some e')->(Instr.mapUpdate t (sr b) kk val).run P w= .ok () {w with heap:=w.heap.setIfInBounds b (.map (es.modify j fun e=>{e with key:=kk,val:=val}) clock)}):=by
 refine⟨fun hf=>?_,fun j e hf hj he=>?_⟩
 ·simp [Instr.mapUpdate,sr,iv hm,Ja W,I8 hq hk,MapKept.run_findKey hq hf,MapKept.run_setObj_map _ W,Result.andThen]
 ·obtain⟨e',he'⟩:=he
  have Y:=hj e' he'
  have H:es[j]? =some e' :=by simpa using he'
  simp [Instr.mapUpdate,sr,iv hm,Ja W,I8 hq hk,MapKept.run_findKey hq hf,MapKept.run_setObj_map _ W,Result.andThen,H,Y,MapKept.run_keyThatStays hk]
def K0{y:β}{o:Option Nat×Nat}{val:Value}(hs:kV w S)(hm:E.P.underlying t=some (.map kt et))(hk:Hc E.P kt kv)(hp:(xQ hx kv b (some k) os m).p w S)(hv:hx.p w S y o val)(hob:o.1≠some b)(hap: ∀o' ∈os,∀j,o.1=some j->o'.1≠some j):
  ∃w' os',(Instr.mapUpdate t (sr b) (kv k) val).run E.P w= .ok () w' /\jc (fun j=>j=b) w S w' S/\kV w' S/\(xQ hx kv b none os' (fi m k y)).p w' S/\(∀j,(xQ hx kv b none os' (fi m k y)).fp j->(xQ hx kv b (some k) os m).fp j\/o.1=some j):=by
 obtain⟨hno,hnb,es,clock,Q,h4,hst⟩:=hp
 obtain⟨q,hq,hdk,hinj⟩:=hk
 obtain⟨os',p1,p2⟩:=DK hdk hinj (born:=clock) hv 0 h4 hap
 have hnb' : ∀o' ∈os',o'.1≠some b:=fun o' ho' =>by
  rcases p1 o' ho' with h|rfl
  ·exact hnb o' h
  ·exact hob
 have hfp: ∀j,(j=b\/ ∃o∈os',o.1=some j)->(j=b\/ ∃o∈os,o.1=some j)\/o.1=some j:=fun j hj=>by
  rcases hj with h|⟨o',ho',e⟩
  ·exact .inl (.inl h)
  ·rcases p1 o' ho' with h|rfl
   ·exact .inl (.inr ⟨o',h,e⟩)
   ·exact .inr e
 have hw: ∀hg:Obj,jc (fun j=>j=b) w S {w with heap:=w.heap.setIfInBounds b hg} S/\kV {w with heap:=w.heap.setIfInBounds b hg} S/\({w with heap:=w.heap.setIfInBounds b hg}:World).heap[b]? =some hg:=fun hg=>
  ⟨⟨rfl,rfl,rfl,jW _,by simp,fun j _ hj=>(MapKept.heap_set (o' :=hg) Q).2 j hj,SH.le_refl _,fun _ _ _=>rfl⟩,hs.same fun j o hj=>(MapKept.heap_set (o' :=hg) Q).2 j (fun e=>by subst e;rw [hno]at hj;cases hj),(MapKept.heap_set Q).1⟩
 obtain⟨r1,r2⟩:=yT (val:=val) hm hq (hdk k) Q
 rcases p2 with⟨j,e,g1,g2,g3,g4⟩|⟨g1,g2⟩
 ·rw [uj]at g1
  obtain⟨x1,x2,x3⟩:=hw (.map (es.modify j fun e=>{e with key:=kv k,val:=val}) clock)
  refine⟨_,os',r2 j _ g1 (fun e' he' =>by rw [g2]at he';cases he';exact g3) ⟨_,g2⟩,x1,x2,⟨hno,hnb',_,_,x3,?_,MapKept.stamped_modify hst j _ (fun _ _=>rfl) (fun e' _ he' =>by rw [<-Array.getElem?_toList,g2]at he';cases he';exact g3.symm)⟩,hfp⟩;refine yk x1 (by rw [Array.toList_modify];exact g4) fun o' ho' j hj e=>?_
  subst e
  exact hnb' o' ho' hj
 ·obtain⟨x1,x2,x3⟩:=hw (.map (es.push ⟨kv k,val,clock⟩) (clock+1))
  refine⟨_,os',r1 g1,x1,x2,⟨hno,hnb',_,_,x3,?_,MapKept.stamped_push hst (fun x V e=>?_)⟩,hfp⟩
  rotate_left
  ·exact Lj hdk h4 g1 V e
  refine yk x1 (by rw [Array.toList_push];exact g2) fun o' ho' j hj e=>?_
  subst e
  exact hnb' o' ho' hj
end

def wP(tmps:Array Value):ResultVar->Sem Value
 | .tmp t=>pure (tmps.getD t undef)
 | .cell a t=>do loadVar t (<-asAddr (tmps.getD a undef))
def NN(P:Program)(N:Fr)(G:kN)(rv:ResultVar)(t:Ty):Prop:= ∀a w S,kV w S->bR N S a G-> ∃v,(wP a.tmps rv).run P w= .ok v w/\t.p S v
def kR{N:Fr}{k:Nat}{t:Ty}(hk:b8 G k=some t):NN P N G (.tmp k) t:=fun a w S _ hf=>⟨_,rfl,hf.at_ k t hk⟩
def sL{N:Fr}{k:Nat}{x:α}(ti:TI P T sz bytes agg z)(hsz:r.sz=sz)(hag:r.agg=agg)(hk:b8 G k=some (cH r x)):NN P N G (.cell k T) (tD r x):=fun a w S hs hf=>by
 obtain⟨b,off,c,U,fr,Y,H,Q⟩:=hf.at_ k _ hk
 obtain⟨c',h4,h5⟩:=hs.part H (r.len Q)
 rw [<-h5]at Q
 have hl:=jF ti h4 hsz hag Q
 have h1' :a.tmps[k]?.getD undef=Value.pointer (some ⟨b,off,none⟩):=by simpa [Ea] using Y
 exact⟨_,by simp [wP,h1',asAddr,hl],_,rfl,Q⟩
def Lu(P:Program)(N:Fr)(G:kN):List ResultVar->List Ty->Prop
 |[],[]=>True
 |rv::rvs,t::ts=>NN P N G rv t/\Lu P N G rvs ts
 |_,_=>False
def Lu.run{N:Fr}(hs:kV w S)(hf:bR N S a G): ∀{rvs:List ResultVar} {ts:List Ty},Lu P N G rvs ts-> ∃vs,(rvs.mapM (wP a.tmps)).run P w= .ok vs w/\uw S ts vs/\vs.length=rvs.length
 |[],[],_=>⟨[],rfl,trivial,rfl⟩
 |rv::rvs,t::ts,⟨Y,H⟩=>by
  obtain⟨v,g1,g2⟩:=Y a w S hs hf
  obtain⟨vs,k1,k2,k3⟩:=Lu.run hs hf H
  exact⟨v::vs,by simp [List.mapM_cons,g1,k1,Result.andThen],⟨g2,k2⟩,by simp [k3]⟩
def E9{rvs:List ResultVar}(hr:fn.results=rvs.toArray)(Y:Nat.beq rvs.length 1=false)(h:Lu P ⟨N,[]⟩ G rvs ts):
  AT ⟨P,⟨N,[]⟩,B,w0,S0,none⟩ (bodyPost P fn (GM ⟨P,⟨N,[]⟩,B,w0,S0,none⟩ (tT ts))) .ret O G:=fun a w S st=>by
 obtain⟨vs,k1,k2,k3⟩:=h.run st.sat st.facts
 have hne: ¬vs.length=1:=by rw [k3];intro e;rw [e]at Y;cases Y
 refine⟨st.facts.defers,.tuple vs.toArray,?_,_,S,rfl,st.ext,st.sat,vs,rfl,k2⟩
 have e1:(fn.results.mapM (wP a.tmps)).run P w= .ok vs.toArray w:=by
  rw [hr,List.mapM_toArray,Sem.run_map,k1]
  rfl
 have e3:results fn a.tmps=((fn.results.mapM (wP a.tmps))>>=fun vs=>pure (if h:vs.size=1 then vs[0]else .tuple vs)):=rfl
 rw [e3,rl,e1]
 simp [Result.andThen,hne]

def Me{v:Value}(h:(tD (gr r) xs).p S v):(gr r).rc S [v] xs:=by
 obtain⟨cs,e,H⟩:=h
 obtain⟨a,cap,e2,Q⟩:=H
 subst e2
 rw [e]
 exact⟨a,cap,rfl,Q⟩
section
variable{ty:TypeId}
def lX{r:Rp β}{get:β->Value}{x:β}{p:Operand}(ti:TI E.P U 1 bytes false z)(hget:j6 r off rV get)(hm:Z r T b x∈O)(hv:get x=an l cap n)(hp:aI E.N G p (K (M b off))):
  b9 E O G ⟨dst,.load U p,ty,pos,after,g⟩ (K (an l cap n)):=(aE (q:=rV) ti rfl rfl hget hm hp).imp fun _ _ h=>by rw [<-hv];exact(vy.1 h).1
def bK{o:Nat}{p:Operand}(hf:bv E.P T i=some (off,sz))(h0:Nat.beq sz 0=false)(hp:aI E.N G p (K (M b o)))(he:o+off=n):b9 E O G ⟨dst,.fieldAddr T p i,ty,pos,after,g⟩ (K (M b n)):=by
 subst he
 exact CF hf h0 hp
def pI{q:Rp α}{hx:TypeId}(ho:dL base B w S O)(hm:tip q hx l cap xs∈O):(gr q).rc S [an l cap xs.length] xs:=Me (lM (ho.mem _ hm).1)
end
def s7{α β γ:Type}(r:Rp α)(r' :Rp γ)(off:Nat)(q:Rp β)(x:α)(y:β)(x' :γ):Prop:= ∀S cs ds,r.rc S cs x->q.rc S ds y->r'.rc S (cs.take off++ds++cs.drop (off+q.sz)) x'
def Em{set:α->β->α}{x:α}{y:β}(h:eE r off q set):s7 r r off q x y (set x y):=fun S cs ds Y H=>h S cs x ds y Y H
variable{r' :Rp γ}
def yS{x:α}{y:γ}(hs:r.sz=r'.sz):s7 r r' 0 r' x y y:=fun S cs ds Y H=>by
 have hl:=r.len Y
 rw [List.take_zero,mz,D8 (by omega),sC]
 exact H
def nG{β' :Type}{p:Rp α}{q' :Rp β'}{x:α×β}{y:γ}{u:Rp γ}{off' :Nat}{x2:β'}(h:s7 q q' off u x.2 y x2)(ho:off' =p.sz+off):s7 (dg p q) (dg p q') off' u x y (x.1,x2):=fun S cs ds ⟨a,b,e,Y,H⟩ hd=>by
 have hl:=p.len Y
 have Q:=h S b ds H hd
 subst e ho
 refine⟨a,_,?_,Y,Q⟩
 have e1:p.sz+off-a.length=off:=by omega
 have e2:p.sz+off+u.sz-a.length=off+u.sz:=by omega
 rw [List.take_append,List.drop_append,sb (by omega),D8 (by omega),e1,e2]
 simp
variable{x' :γ}
def Jo{α' β' :Type}{p:Rp α}{p' :Rp α'}{f:β->α}{f' :β' ->α'}{x:β}{x' :β'}{y:γ}{u:Rp γ}{z:α'}(h:s7 p p' off u (f x) y z)(e:f' x' =z):s7 (qc p f) (qc p' f') off u x y x' :=fun S cs ds Y H=>by
 show p'.rc S _ (f' x')
 rw [e]
 exact h S cs ds Y H
section
variable{e:Exit}{ty:TypeId}
def jQ{x:α}{y:β}{p v:Operand}(ti:TI E.P U sz bytes agg z)(hsz:q.sz=sz)(hset:s7 r r' off q x y x')(hoff:Nat.ble (off+q.sz) r.sz=true)(hp:aI E.N G p (K (M b off)))(hv:aI E.N G v (tD q y))(k:RG E ops h3 rest (Z r' T b x' ::O) G):RG E ops h3 (⟨none,.store U p v,ty,pos,after,none⟩::rest) (Z r T b x::O) G:= .of rfl fun a w S st=>by
 have Y:a.eval p=M b off:=hp S a st.facts
 obtain⟨ds,H,Q⟩:=hv S a st.facts
 obtain⟨⟨hno,cur,h5,h6⟩,_⟩:=st.own.1
 have hl:=r.len h6
 have hoff' :=pN hoff
 obtain⟨w',hr,e1,e2,e3,e4,e5,e6⟩:=iY ti hsz Q h5 (off:=off) (by simp at hl;omega)
 have hrun:(execOp a.eval ⟨none,.store U p v,ty,pos,after,none⟩).run E.P w= .ok .skip w' :=by
  simp [execOp,Y,H,Instr.storeAt,M,Instr.sureAddr,hr]
 refine⟨fun c h=>(by cases h),?_⟩
 rw [hrun]
 obtain⟨g1,g2,g3⟩:=lV (O:=O) st.sat (Z r T b x) (Z r' T b x') st.own (fun _=>qM) (fun _=>qM) ⟨e1,e2,e3,e4.1,e4.2⟩ e6 ⟨hno,_,e5,by simpa using hset S _ _ h6 Q⟩ hno
 exact k _ _ S ⟨st.ext.step g1 (fun c hc=>st.own.1.2 c hc),g2,g3,st.facts⟩
def St.cvB{x:α}(h: ∀w S cs,dL E.base E.B w S O->r.rc S cs x->r'.rc S cs x')(st:St E (Z r T b x::O) G a w S):St E (Z r' T b x' ::O) G a w S:=
 st.own_map fun⟨⟨⟨Y,c,H,Q⟩,h4⟩,h5,h6⟩=>⟨⟨⟨Y,c,H,h _ _ _ h6 Q⟩,h4⟩,h5,h6⟩
def NP{x:α}(h: ∀w S cs,dL E.base E.B w S O->r.rc S cs x->r'.rc S cs x')(k:RG E ops h3 rest (Z r' T b x' ::O) G):RG E ops h3 rest (Z r T b x::O) G:=fun a w S st=>k a w S (st.cvB h)
def sw{x:α}(h: ∀w S cs,dL E.base E.B w S O->r.rc S cs x->r'.rc S cs x')(k:AT E h3 e (Z r' T b x' ::O) G):AT E h3 e (Z r T b x::O) G:=fun a w S st=>k a w S (st.cvB h)
end

section
variable{b:Frame}{k:List Item}{cs:List Frame}{F:Fence}
def nY:step P (lone (b.atR a (.code (.scope c)::k)) cs w)= .next (lone (b.atR a (.code c:: .inScope c::k)) cs w):=
 step_lone_go (by simp [stepG,stepG.exec,Frame.atR])
def Cu:step P (lone (b.atR a (.inScope c::k)) cs w)= .next (lone (b.atR a k) cs w):=
 step_lone_go (by simp [stepG,stepG.exec,Frame.atR])
def Hs(h:c.wpIn F n P (Exit.noGoto h3) a w):(Code.scope c).wpIn F n P h3 a w:=by
 intro b k cs hro W hr
 have h0:(lone (b.atR a (.code (.scope c)::k)) cs w).fenced P F:=fenced_calm W hr rfl
 obtain⟨e,a₁,w₁,hq,harr⟩:=h b (.inScope c::k) cs hro W hr
 cases e with
 |normal=>exact⟨.normal,a₁,w₁,hq,.head h0 nY (StepsIn.trans harr (.one (fenced_calm W hr rfl) Cu))⟩
 |exit id=>
  have V:exitTo id (.inScope c::k)=exitTo id k:=by simp [exitTo]
  exact⟨.exit id,a₁,w₁,hq,fun k' hk=> .head h0 nY (harr.1 k' (by rw [V];exact hk)),
   fun hr' hk=>let⟨k₁,Y,H⟩:=harr.2 hr' (by rw [V];exact hk);⟨k₁,Y,.head h0 nY H⟩⟩
 |goto l=>exact hq.elim
 |ret=>exact⟨_,a₁,w₁,hq,.of_steps (.one h0 nY) harr⟩
 |panic ch=>exact⟨_,a₁,w₁,hq,.of_steps (.one h0 nY) harr⟩
 |outgrown=>exact⟨_,a₁,w₁,hq,.of_steps (.one h0 nY) harr⟩
end
section
def Cj(h:CG E (Exit.noGoto h3) c O G):CG E h3 (.scope c) O G:=fun a w S st=>Hs (h a w S st)
def Ck{l:Nat}(h:AT E h3 .normal O G):CG E h3 (.label l) O G:=fun a w S st=>wpIn_label (h a w S st)
def ox(h:AT E h3 .ret O G):AT E (Exit.noGoto h3) .ret O G:=h
end

def EJ [Inhabited α](h:i<m):j6 (mg r m) (i*r.sz) r (fun x=>(x[i]?).getD default):=fun S cs x ⟨Y,H⟩=>by
 have hi:x[i]? =some ((x[i]?).getD default):=by rw [sx (by omega)];rfl
 exact xJ H hi
def JV [DecidableEq α] [Inhabited α]{t e:Nat}(D:P.underlying t=some (.array m e))(ti:TI P e sz bytes agg z)(hsz:r.sz=sz)(hag:r.agg=agg)(he:jX P e r n):jX P t (mg r m) (n+1):=fun S cs ds x y aN w V hy=>by
 obtain⟨i,zv,hi,hs,_⟩:=ti.get
 have hcell:P.cellsOf e=r.sz:=by unfold Program.cellsOf;rw [hi];simp [hs,hsz]
 have e1:(mg r m).val cs= .agg cs.toArray:=rfl
 have e2:(mg r m).val ds= .agg ds.toArray:=rfl
 rw [e1,e2,show aN+(n+1)=(aN+n)+1 from rfl,run_equalIn_array w (aN+n) cs.toArray ds.toArray D hi,List.range_eq_range',hcell]
 have key: ∀k j,j+k=m->(Op.eqItems (aN+n) e r.sz cs.toArray ds.toArray (List.range' j k)).run P w= .ok (decide (x.drop j=y.drop j)) w:=by
  intro k
  induction k with
  |zero=>
   intro j hj
   rw [D8 (by have:=V.1;omega),D8 (by have:=hy.1;omega)]
   rfl
  |succ k ih=>
   intro j hj
   have hjx:j<x.length:=by have:=V.1;omega
   have hjy:j<y.length:=by have:=hy.1;omega
   have Y:=qp ti hsz hag (EJ (r:=r) (m:=m) (i:=j) (by omega)) V w
   have H:=qp ti hsz hag (EJ (r:=r) (m:=m) (i:=j) (by omega)) hy w
   have Q:=he S _ _ _ _ aN w (EJ (r:=r) (m:=m) (i:=j) (by omega) S cs x V) (EJ (r:=r) (m:=m) (i:=j) (by omega) S ds y hy)
   rw [List.range'_succ]
   unfold Op.eqItems
   simp only [rl,Y,H,Q,sF]
   have ex:x.drop j=(x[j]?).getD default::x.drop (j+1):=by rw [sx hjx];exact Cr hjx
   have ey:y.drop j=(y[j]?).getD default::y.drop (j+1):=by rw [sx hjy];exact Cr hjy
   rw [ex,ey]
   by_cases hq:(x[j]?).getD default=(y[j]?).getD default
   ·simp only [hq,decide_true,qK,o0,md]
    rw [ih (j+1) (by omega)]
    congr 1
    simp
   ·simp [hq]
 have:=key m 0 (by omega)
 simpa using this
section
variable{ty:TypeId}
def qE{xs:List Operand}{sz' bytes' :Nat}{agg' :Bool}{z' :List Value}(D:E.P.underlying t=some (.array m T))(ti:TI E.P T sz bytes agg z)(hsz:r.sz=sz)(tj:TI E.P t sz' bytes' agg' z')(hz:z'.length=m*r.sz)(hm:m=ys.length)(V:js E.N G xs (ys.map (tD r))):b9 E O G ⟨dst,.build t (wy 0 xs).toArray,ty,pos,after,g⟩ (tD (mg r m) ys):=
 .of_pure fun a w S _ _ hF=>by
  obtain⟨zv,hzr,hzc⟩:=tj.zero w
  obtain⟨cs,hc,hfill⟩:=BC ys (xs.map a.eval) 0 [] z' (V.tys hF) (by simp) (by rw [hz,hm])
  subst hsz
  have hparts:((wy 0 xs).toArray.map fun(i,x)=>(i,a.eval x)).toList=zO 0 (xs.map a.eval):=by simpa using zg a.eval 0 xs
  rw [mz,mz]at hfill
  refine⟨.agg cs.toArray,?_,cs,rfl,hm.symm,hc⟩
  simp only [execOp,Instr.build,rl,hzr,sF,iv D,ti.sizeOf,hzc,hparts,hfill]
  simp
end
end Go.Proofs.YtdohlidddcgfjaaGreat

