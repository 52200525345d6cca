/- cE of this claim: W14, W16, W17, W18, W19, W20, W22, W23, W24, W25, W26, W28, W30, W31, W32. -/
import Derived.Test.YtdohlidddcgfjaaGreatFcV1
import Derived.RangeFuncRecord
import Derived.RangeFuncLeaves
import Derived.Laws.StructEq
import Derived.Lib.ConvBytes
import Derived.Lib.AppendZeros
import Derived.Laws.MakeOwn
import Derived.MapKept
import Derived.Scope
import Derived.ChangeKeysEq
set_option linter.all false
namespace Go.Proofs.YtdohlidddcgfjaaGreat
open Go

variable{S:SH}{a:Act}{b:Nat}{e:TypeId}{α β:Type}{k:IntKind}{q:Rp β}{x:Operand}{y:α}
def cV{p:Rp α}:gg (cH p q) 0 p (fun x y=>(y,x.2)):=fun S cs x ds y h k=>by
 obtain⟨a,b,e,X,K⟩:=h
 have hl:=p.len X
 refine⟨ds,b,?_,k,K⟩
 rw [e,<-hl];simp
variable{off:Nat}{γ:Type}{ac u:Rp γ}
def aG{p:Rp α}{off' :Nat}{u:β->γ->β}(h:gg q off ac u)(ho:off' =p.sz+off):gg (cH p q) off' ac (fun x y=>(x.1,u x.2 y)):=fun S cs x ds y V hy=>by
 obtain⟨a,b,e,X,K⟩:=V
 have hl:=p.len X
 refine⟨a,b.take off++ds++b.drop (off+ac.sz),?_,X,h S b x.2 ds y K hy⟩
 rw [e,ho,<-hl,List.take_length_add_append,show a.length+off+ac.sz=a.length+(off+ac.sz)from by omega,List.drop_length_add_append]
 simp
variable{f:FuncId}
def ce{p:Rp α}{q:Rp γ}{u:α->γ->α}{f:β->α}{set:β->γ->β}(h:gg p off q u)(hf: ∀x y,f (set x y)=u (f x) y):gg (nN p f) off q set:=fun S cs x ds y V hy=>by
 show p.rc S _ (f (set x y))
 rw [hf]
 exact h S cs (f x) ds y V hy
def jt(P:Program)(T:TypeId):Option (List (Nat×Nat)):=
 match P.underlying T with
 |some (.struct fs)=>fs.toList.mapM fun f=>(P.info? f.type).map fun q=>(f.offset,q.size)
 |_=>none
variable{P:Program}{w:World}
def Em{P:Program}: ∀(fs:List Field) (ps:List (Nat×Nat)) (w:World),fs.mapM (fun f=>(P.info? f.type).map fun q=>(f.offset,q.size))=some ps->
  (fs.mapM (fun f=>do pure (f.offset,<-sizeOf f.type):Field->Sem (Nat×Nat))).run P w= .ok ps w
 |[],ps,w,h=>by
  simp at h;subst h
  simp
 |f::fs,ps,w,h=>by
  simp only [List.mapM_cons]at h ⊢
  cases hq:P.info? f.type with
  |none=>simp [hq]at h
  |some q=>
   cases hr:fs.mapM (fun f=>(P.info? f.type).map fun q=>(f.offset,q.size))with
   |none=>simp [hq,hr]at h
   |some qs=>
    simp [hq,hr]at h
    subst h
    have ih:=Em fs qs w hr
    simp [sizeOf,typeInfo,hq]at ih ⊢
    simp [ih]
variable{E:En}{G:mV}{O:List OE}{T:TypeId}{after:Array Edge}{agg:Bool}{bytes:Nat}{c:Code}{dst:Option Tmp}{g:Option (Nat×Bool)}{i:Nat}{l:Option Nat}{o:Oper}{pos:String}{r:Rp α}{rest:List Oper}{sz:Nat}{z:List Value}
section
variable{ty:TypeId}
def BP(E:En)(G:mV){α:Type}(r:Rp α)(ps:List (Nat×Nat)):α->List (Nat×Operand)->α->Prop
 |x,[],y=>x=y
 |x,(i,o)::rest,y=> ∃(β:Type) (q:Rp β) (set:α->β->α) (off:Nat) (v:β),ps[i]? =some (off,q.sz)/\gg r off q set/\Nat.ble (off+q.sz) r.sz=true/\aY E.N G o (tD q v)/\BP E G r ps (set x v) rest y
def EZ{α:Type}{r:Rp α}{ps:List (Nat×Nat)}{S:SH}{a:Act}(hF:cE E.N S a G): ∀(parts:List (Nat×Operand)) (x y:α) (cs:List Value),BP E G r ps x parts y->r.rc S cs x->
  ∃ds,r.rc S ds y/\Instr.fill (ps.toArray[·]?) cs.toArray (parts.map fun p=>(p.1,a.eval p.2))=some ds.toArray
 |[],x,y,cs,h,V=>by
  have e:x=y:=h
  subst e
  exact⟨cs,V,rfl⟩
 |(i,o)::rest,x,y,cs,⟨β,q,set,off,v,X,K,h3,h4,h5⟩,V=>by
  obtain⟨c,hv,hc⟩:=h4 S a hF
  have hl:=q.len hc
  have hlr:=r.len V
  have h3' :=sn h3
  have hcells:(a.eval o).cells=c.toArray:=by rw [hv];exact v7 hc
  obtain⟨ds,h6,h7⟩:=EZ hF rest _ y _ h5 (K S cs x c v V hc)
  refine⟨ds,h6,?_⟩
  have hps:ps.toArray[i]? =some (off,q.sz):=by simpa using X
  have hs:(a.eval o).cells.size=q.sz:=by rw [hcells];simpa using hl
  have h8:=A1 (a.eval o) off (cs.take off) ((cs.drop off).take q.sz) (cs.drop (off+q.sz)) (by rw [hs];simp;omega) (by simp;omega)
  have e1:cs.take off++(cs.drop off).take q.sz++cs.drop (off+q.sz)=cs:=by
   rw [pe,<-uV,ui,ui]
  rw [e1]at h8
  simp only [DL,Instr.fill,hps]
  rw [bk (by simp [hs,hlr];omega),h8,hcells]
  simpa using h7
def ee{x:α}{parts:List (Nat×Operand)}{ps:List (Nat×Nat)}(ti:TI E.P T sz bytes agg z)(hp:jt E.P T=some ps)(hz: ∀S,r.rc S z x)(H:BP E G r ps x parts y)(ha:r.agg=true:=by rfl):
  cI E O G ⟨dst,.build T parts.toArray,ty,pos,after,g⟩ (tD r y):=
 .of_pure fun a w S _ _ hF=>by
  obtain⟨zv,hzr,hzc⟩:=ti.zero w
  obtain⟨ds,X,K⟩:=EZ hF parts x y z H (hz S)
  unfold jt at hp
  split at hp
  ·rename_i fs hu
   have hpl:=Em fs.toList ps w hp
   have hpl2:(fs.mapM (fun f=>do pure (f.offset,<-sizeOf f.type):Field->Sem (Nat×Nat))).run E.P w= .ok ps.toArray w:=by
    have hfs:fs=fs.toList.toArray:=by simp
    generalize fs.toList=l at hfs hpl
    subst hfs
    rw [List.mapM_toArray,Sem.run_map,hpl]
    rfl
   refine⟨.agg ds.toArray,?_,ds,(tI ha ds).symm,X⟩
   simp only [execOp,Instr.build,uU,hzr,vY,j3 hu,hpl2,hzc]
   have hm:(parts.toArray.map fun(i,x)=>(i,a.eval x)).toList=parts.map fun p=>(p.1,a.eval p.2):=by simp
   rw [hm,K]
   simp
  ·cases hp
end
variable{B:Nat->Prop}{N:Nat}{S0:SH}{U:TypeId}{fn:Func}{w0:World}
section
def FH{k:Nat}{x:α}(hr:fn.results= #[.cell k T])(ti:TI P T sz bytes agg z)(hsz:r.sz=sz)(hag:r.agg=agg)(hk:cC G k=some (ck r x)):
  AT ⟨P,⟨N,[]⟩,B,w0,S0,none⟩ (bodyPost P fn (KA ⟨P,⟨N,[]⟩,B,w0,S0,none⟩ (tD r x))) .ret O G:=fun a w S st=>by
 obtain⟨b,off,c,U,fr,X,K,h3⟩:=st.facts.at_ k _ hk
 obtain⟨c',h4,h5⟩:=st.sat.part K (r.len h3)
 rw [<-h5]at h3
 refine⟨st.facts.defers,r.val ((c'.toList.drop off).take r.sz),?_,_,S,rfl,st.ext,st.sat,_,rfl,h3⟩
 have hl:=ko ti h4 hsz hag h3
 have h1' :a.tmps[k]?.getD undef=Value.pointer (some ⟨b,off,none⟩):=by simpa [HA] using X
 simp [results,hr,h1',asAddr,hl]
end

def pg(L:List Oper):Nat->Nat->Nat->Bool
 |0,_,_=>false
 |n+1,i,j=>match L[i]? with
  |some o=>o.after.toList.any fun e=>Region.binds .any e&&(Nat.beq e.on j||pg L n e.on j)
  |none=>false
def xf(L:List Oper)(m:Nat):Bool:=(List.range m).all fun j=>pg L L.length m j
def zI(L:List Oper)(n k:Nat):Bool:=(List.range k).all fun m=>xf L (n+m)&&(match L[n+m]? with|some o=>fv (n+m) o&&o.guard.isNone|none=>false)
variable{L:List Oper}{done:Array Bool}{hi j:Int}{n:Nat}
def hZ{L:List Oper}{done:Array Bool}(down: ∀j o,L[j]? =some o->done.getD j false=true-> ∀e∈o.after,Region.binds .any e=true->done.getD e.on false=true):
  ∀(n i j:Nat),(∀o,L[i]? =some o-> ∀e∈o.after,Region.binds .any e=true->done.getD e.on false=true)->pg L n i j=true->done.getD j false=true
 |0,_,_,_,h=>by cases h
 |n+1,i,j,hi,h=>by
  unfold pg at h
  cases ho:L[i]? with
  |none=>rw [ho]at h;cases h
  |some o=>
   rw [ho]at h
   obtain⟨e,he0,H⟩:=DG.1 h
   have he:e∈o.after:=by simpa using he0
   rw [pt,AK]at H
   have hd:=hi o ho e he H.1
   rcases H.2 with X|X
   ·rw [<-qy X];exact hd
   ·exact hZ down n e.on j (fun p hp=>down e.on p hp hd) X
variable{S' :SH}{aR:Nat}{t:TypeId}{ts:List Ty}{w' :World}
def DJ.stepT{l:List Oper}(h:DJ E O G l ts done a w S){t:Ty}{v:Value}(hi:l[i]? =some o)(hd:o.dst=some aR)(hdN:aR<E.N.n)(hs2: ∀j p,l[j]? =some p->done.getD j false=true->p.dst=some aR->i=j)(hwait: ∀e∈o.after,Region.binds .any e=true->done.getD e.on false=true)(D:ts[i]? =some t)(hun:done.getD i true=false)(hext:la uX w S w' S')(hsat:nm w' S')(hv:t.p S' v):DJ E O G l ts (done.setIfInBounds i true) (a.put o.dst v) w' S' :=by
 have hda:aR<a.tmps.size:=by rw [h.size];exact hdN
 have hlt:i<done.size:=by rw [h.dsz];exact(tp.1 hi).1
 have hset: ∀j,(done.setIfInBounds i true).getD j false=true->j=i\/done.getD j false=true:=fun j hj=>by
  by_cases hij:i=j
  ·exact .inl hij.symm
  ·rw [xn false hij]at hj;exact .inr hj
 have hseti:(done.setIfInBounds i true).getD i false=true:=by simp [hlt]
 have hun' :done.getD i false=false:=by simp [hlt]at hun ⊢;exact hun
 refine⟨h.ext.step0 hext,hsat,h.own.ext0 hext,?_,?_,by simp [h.dsz],fun j p hj hdone e he H=>?_,fun k u hk hno=>?_,fun j p d' u hj hdone hd' hu=>?_⟩
 ·rw [hd];simp [Act.put,h.size]
 ·rw [hd];exact h.defers
 ·rcases hset j hdone with rfl|hj'
  ·rw [hi]at hj
   have:o=p:=by simpa using hj
   subst this
   exact zq (hwait e he H)
  ·exact zq (h.down j p hj hj' e he H)
 ·have hne:aR≠k:=fun e=>hno i o hi hseti (by rw [hd,e])
  rw [hd,vj hda,bk hne]
  exact u.mono hext.keep (h.old k u hk fun j p hj hdone=>hno j p hj (zq hdone))
 ·rw [hd,vj hda]
  rcases hset j hdone with rfl|hj'
  ·rw [hi]at hj
   have:o=p:=by simpa using hj
   subst this
   rw [hd]at hd'
   have:aR=d' :=by simpa using hd'
   subst this
   rw [bJ rfl]
   rw [D]at hu
   have:t=u:=by simpa using hu
   subst this
   exact hv
  ·have hne:aR≠d' :=fun e=>by
    subst e
    have:=hs2 j p hj hj' hd'
    subst this
    rw [hj']at hun';cases hun'
   rw [bk hne]
   exact u.mono hext.keep (h.new j p d' u hj hj' hd' hu)
def qo(h:i<done.size):done.getD i true=done.getD i false:=by simp [h]
def u5(h:mW done=0)(hi:i<done.size):done.getD i false=true:=by
 unfold mW at h
 rw [List.countP_eq_zero]at h
 have K:done[i]∈done.toList:=by simp
 have:=h _ K
 rw [<-qo hi]
 simpa [hi] using this
variable{aK:Exit->Act->World->Prop}{m:Nat}{xs:List α}
def z1{r:Option Nat}(hc: ∀m o,n<=m->L[m]? =some o->xf L m=true)(hedge: ∀m o,L[m]? =some o->fv m o=true):
  ∀(rest:List Oper) (m:Nat) (done:Array Bool) (fuel:Nat) (a:Act) (w:World),n<=m->L.drop m=rest->done.size=L.length->(∀j,j<L.length->(done.getD j false=true↔j<m))->mW done=fuel->
   wpListIn (fw r) 0 P L.toArray aK rest a w->wpAnyIn (fw r) 0 P .any L.toArray aK fuel done a w:=by
 intro rest
 induction rest with
 |nil=>
  intro m done fuel a w hnm hdrop hsz hdone hu h
  have hlen:L.length<=m:=xO.1 hdrop
  have hr:Region.ready .any L.toArray done=[]:=by
   cases hr:Region.ready .any L.toArray done with
   |nil=>rfl
   |cons i r=>
    have hm:i∈Region.ready .any L.toArray done:=by rw [hr];exact qa ..
    obtain⟨hun,o,ho,_⟩:=ul.1 hm
    have hi:i<L.length:=by simpa using (Hz.1 ho).1
    have:=(hdone i hi).2 (by omega)
    rw [qo (by omega)]at hun
    rw [hun]at this;cases this
  cases fuel with
  |zero=>exact⟨hr,h⟩
  |succ f=>exact⟨fun _=>h,fun i hi=>by rw [hr]at hi;cases hi⟩
 |cons o rest ih=>
  intro m done fuel a w hnm hdrop hsz hdone hu h
  have hm:m<L.length:=by
   rcases qb m L.length with h' |h'
   ·exact h'
   ·rw [xO.2 h']at hdrop;cases hdrop
  have hLm:L[m]? =some o:=by
   have:=wF (xs:=L) (i:=m) (j:=0)
   rw [hdrop]at this
   simpa using this.symm
  have hmu:done.getD m true=false:=by
   have hnot: ¬(done.getD m false=true):=fun K=>by have:=(hdone m hm).1 K;omega
   rw [qo (by omega)]
   exact AL _▸hnot
  have honly: ∀i∈Region.ready .any L.toArray done,i=m:=by
   intro i hi
   obtain⟨hun,p,hp,hwait⟩:=ul.1 hi
   have hp' :L[i]? =some p:=by simpa using hp
   have hil:i<L.length:=(tp.1 hp').1
   have hid: ¬i<m:=fun hlt=>by
    have K:=(hdone i hil).2 hlt
    rw [qo (by omega)]at hun
    rw [hun]at K;cases K
   rcases qb m i with hlt|hge
   ·exfalso
    have hcov:=hc i p (by omega) hp'
    unfold xf at hcov
    have hre:=mo.1 hcov m (by simpa using hlt)
    have:done.getD m false=true:=by
     refine hZ (L:=L) (done:=done) (fun j q hj hjd e he H=>?_) _ i m (fun q hq e he H=>?_) hre
     ·have hjl:j<L.length:=(tp.1 hj).1
      have hjm:=(hdone j hjl).1 hjd
      have:=hedge j q hj
      unfold fv at this
      have:=mo.1 this e (by simpa using he)
      simp only [H,ug,vE,vD]at this
      exact(hdone e.on (by omega)).2 (by omega)
     ·have:q=p:=by rw [hp']at hq;simpa using hq.symm
      subst this
      exact hwait e he H
    have:=(hdone m hm).1 this
    omega
   ·omega
  have hready:m∈Region.ready .any L.toArray done:=by
   rw [ul]
   refine⟨hmu,o,by simpa using hLm,fun e he H=>?_⟩
   have:=hedge m o hLm
   unfold fv at this
   have:=mo.1 this e (by simpa using he)
   simp only [H,ug,vE,vD]at this
   exact(hdone e.on (by omega)).2 this
  cases fuel with
  |zero=>
   have:=u5 hu (i:=m) (by omega)
   have:=(hdone m hm).1 this
   omega
  |succ fuel=>
   refine⟨fun hr=>(by rw [hr]at hready;cases hready),fun i hi=>?_⟩
   have:=honly i hi
   subst this
   have hnext:=fun a w=>ih (i+1) (done.setIfInBounds i true) fuel a w (by omega) (by rw [<-uV,hdrop];rfl) (by simpa using hsz) (fun j hj=>by
    by_cases hij:i=j
    ·subst hij;have:i<done.size:=by omega
     simp [this]
    ·rw [xn false hij,hdone j hj];omega) (by have:=sq hmu;omega)
   unfold wpOpIn
   have hLm' :L.toArray[i]? =some o:=by simpa using hLm
   rw [hLm']
   show if _ then _ else _
   unfold wpListIn at h
   by_cases hw:Region.wanted o (yielded L.toArray a.tmps)=true
   ·rw [bJ hw]at h ⊢;exact Oper.wpIn_mono (fun a w hk=>hnext a w hk) h
   ·rw [bk hw]at h ⊢;exact⟨h.1,hnext _ _ h.2⟩
def Ji{l t:List Oper}(hsl:wL E.N.n [] l=true)(hlen:ts.length=l.length)(hd:DR E O G (l++t) ts 0 l)(D:zI (l++t) l.length t.length=true)(hQ: ∀a w S,St E O (LD l ts G) a w S->wpListIn (fw E.r) 0 E.P (l++t).toArray aK t a w):
  ∀(fuel:Nat) (done:Array Bool) (a:Act) (w:World) (S:SH),mW done=fuel->(∀j,l.length<=j->done.getD j false=false)->DJ E O G (l++t) ts done a w S->wpAnyIn (fw E.r) 0 E.P .any (l++t).toArray aK fuel done a w:=by
 have hL1: ∀i o,i<l.length->(l++t)[i]? =some o->l[i]? =some o:=fun i o hi h=>by rwa [AP hi]at h
 have hL2: ∀i o,l[i]? =some o->(l++t)[i]? =some o:=fun i o h=>by rw [AP (tp.1 h).1];exact h
 have htail: ∀m o,l.length<=m->(l++t)[m]? =some o->xf (l++t) m=true/\fv m o=true:=fun m o hm ho=>by
  have hml:m<(l++t).length:=(tp.1 ho).1
  rw [mq]at hml
  unfold zI at D
  have:=mo.1 D (m-l.length) (by simp;omega)
  rw [show l.length+(m-l.length)=m from by omega,ho]at this
  simp only [pt]at this
  exact⟨this.1,this.2.1⟩
 have hedge: ∀i o,(l++t)[i]? =some o->fv i o=true:=fun i o hi=>by
  rcases qb i l.length with h|h
  ·obtain⟨_,_,_,_,_,h,_⟩:=DR.get l 0 hd i o (hL1 i o h hi)
   simpa using h
  ·exact(htail i o h hi).2
 obtain⟨hs1,hs2⟩:=xX l [] hsl
 have fin: ∀fuel done a w S,mW done=fuel->(∀j,l.length<=j->done.getD j false=false)->DJ E O G (l++t) ts done a w S->(∀i,i<l.length->done.getD i false=true)->wpAnyIn (fw E.r) 0 E.P .any (l++t).toArray aK fuel done a w:=by
  intro fuel done a w S hu hfree h hall
  refine z1 (n:=l.length) (fun m o hm ho=>(htail m o hm ho).1) hedge t l.length done fuel a w (eJ _) (by simp) h.dsz (fun j hj=>⟨fun hjd=>?_,fun hlt=>hall j hlt⟩) hu
   (hQ a w S ⟨h.ext,h.sat,h.own,h.size,h.defers,fun j u hj=>?_⟩)
  ·rcases qb j l.length with h' |h'
   ·exact h'
   ·rw [hfree j h']at hjd;cases hjd
  ·rcases GY l ts j u (fun o ho e=>by obtain⟨aR,hd,_⟩:=hs1 o ho;rw [hd]at e;cases e) hlen hj with⟨i,o,X,K,h3⟩|⟨X,K⟩
   ·exact h.new i o j u (hL2 i o X) (hall i (tp.1 X).1) K h3
   ·refine h.old j u X fun i o ho hdn=>?_
    rcases qb i l.length with h' |h'
    ·exact K o (rC (hL1 i o h' ho))
    ·rw [hfree i h']at hdn;cases hdn
 have lower: ∀done a w S i,(∀j,l.length<=j->done.getD j false=false)->DJ E O G (l++t) ts done a w S->i∈Region.ready .any (l++t).toArray done->l.length<=i-> ∀j,j<l.length->done.getD j false=true:=by
  intro done a w S i hfree h hi hge j hj
  obtain⟨hun,p,hp,hwait⟩:=ul.1 hi
  have hp' :(l++t)[i]? =some p:=by simpa using hp
  have hcov:=(htail i p hge hp').1
  unfold xf at hcov
  have hre:=mo.1 hcov j (by simp;omega)
  exact hZ h.down _ i j (fun q hq e he H=>by
   have:q=p:=by rw [hp']at hq;simpa using hq.symm
   subst this
   exact hwait e he H) hre
 intro fuel
 induction fuel with
 |zero=>
  intro done a w S hu hfree h
  exact fin 0 done a w S hu hfree h fun i hi=>u5 hu (by rw [h.dsz,mq];omega)
 |succ fuel ih=>
  intro done a w S hu hfree h
  by_cases hall: ∀i,i<l.length->done.getD i false=true
  ·exact fin _ done a w S hu hfree h hall
  have hready0: ∀m i,i<m->i<l.length->Region.ready .any (l++t).toArray done=[]->done.getD i false=true:=by
   intro m
   induction m with
   |zero=>intro i h;omega
   |succ m ihm=>
    intro i him hil hr
    have his:i<done.size:=by rw [h.dsz,mq];omega
    by_cases hdn:done.getD i true=true
    ·rw [<-qo his];exact hdn
    ·exfalso
     obtain⟨o,ho⟩: ∃o,(l++t)[i]? =some o:=⟨l[i],hL2 i _ (lI hil)⟩
     have hmem:i∈Region.ready .any (l++t).toArray done:=by
      rw [ul]
      refine⟨by simpa using hdn,o,by simpa using ho,fun e he H=>?_⟩
      have:=hedge i o ho
      unfold fv at this
      have:=mo.1 this e (by simpa using he)
      simp only [H,ug,vE,vD]at this
      exact ihm e.on (by omega) (by omega) hr
     rw [hr]at hmem;cases hmem
  refine⟨fun hr=>absurd (fun i hi=>hready0 (i+1) i (by omega) hi hr) hall,fun i hi=>?_⟩
  have hil:i<l.length:=by
   rcases qb i l.length with h' |h'
   ·exact h'
   ·exact absurd (lower done a w S i hfree h hi h') hall
  obtain⟨hun,o,ho,hwait⟩:=ul.1 hi
  have ho' :(l++t)[i]? =some o:=by simpa using ho
  have hol:=hL1 i o hil ho'
  obtain⟨needs,u,X,K,h3,_,h5⟩:=DR.get l 0 hd i o hol
  rw [uT]at X h3
  have hF:=h.need ho' hun hwait K h3
  have h6:=h5 a w S h.sat h.own hF
  have hu' :mW (done.setIfInBounds i true)=fuel:=by have:=sq hun;omega
  obtain⟨aR,hdd,hdN,_⟩:=hs1 o (rC hol)
  have huq: ∀j p,(l++t)[j]? =some p->done.getD j false=true->p.dst=some aR->i=j:=fun j p hj hjd hpd=>by
   rcases qb j l.length with h' |h'
   ·exact hs2 i j o p hol (hL1 j p h' hj) (by rw [hdd,hpd])
   ·rw [hfree j h']at hjd;cases hjd
  have hfree' : ∀j,l.length<=j->(done.setIfInBounds i true).getD j false=false:=fun j hj=>by
   rw [xn false (by omega)];exact hfree j hj
  unfold wpOpIn
  rw [ho]
  show if _ then _ else _
  by_cases hw:Region.wanted o (yielded (l++t).toArray a.tmps)=true
  ·rw [bJ hw]at h6 ⊢
   refine mH (fun a' w' ⟨v,S',ha,he,hs,hv⟩=>?_) h6
   subst ha
   exact ih _ _ _ S' hu' hfree' (h.stepT ho' hdd hdN huq hwait X hun he hs hv)
  ·rw [bk hw]at h6 ⊢
   exact⟨fun _ _=>trivial,ih _ _ _ S hu' hfree' (h.stepT ho' hdd hdN huq hwait X hun (jS _ _ _) h.sat h6)⟩
def SJ{id:Nat}{l t:List Oper}(hL:L=l++t)(hm:E.P.follows .mixedOrders=true)(hsl:wL E.N.n [] l=true)(hlen:ts.length=l.length)(D:zI L l.length t.length=true)(hd:DR E O G L ts 0 l)(k:RG E L.toArray aK t O (LD l ts G)):CG E aK (.region id L.toArray true) O G:=fun a w S st=>by
 subst hL
 refine wpIn_region_any hm ?_
 obtain⟨he,hs⟩:=yP (w:=w) st.sat
 refine Ji hsl hlen hd D (fun a w S st=>k a w S st) _ _ _ _ S ?_ (fun j _=>?_)
  ⟨st.ext.step0 he,hs,st.own.ext0 he,st.facts.size,st.facts.defers,by simp,fun j o hj hdone=>?_,fun k t hk _=>st.facts.at_ k t hk,fun j o aR t hj hdone=>?_⟩
 ·unfold mW;rw [MM,MK];simp
 ·simp [zX];split<;>rfl
 ·simp [zX]at hdone
  split at hdone<;>simp at hdone
 ·simp [zX]at hdone
  split at hdone<;>simp at hdone

abbrev It(α:Type):=(σ:Type)->(α->σ->Option (Bool×σ))->σ->Option σ

variable{base:Nat}
def fe.weak: ∀{O:List OE},fe base B w S O->fe 0 uX w S O
 |[],_=>trivial
 |_::_,⟨X,K,h3⟩=>⟨⟨X.1,fun _ _=> .inl (oW _)⟩,K,fe.weak h3⟩
def zi: ∀{O:List OE},fe 0 uX w S O->(∀f∈O,∀k,f.fp k->base<=k\/B k)->fe base B w S O
 |[],_,_=>trivial
 |_::_,⟨X,K,h3⟩,h=>⟨⟨X.1,h _ (qa ..)⟩,K,zi h3 fun f hf=>h f (ry _ hf)⟩
section
variable{ty:TypeId}
end
def Nu:List OE->List OE->Prop
 |[],_=>True
 |f::O,g::O' =>(∀k,f.fp k->g.fp k)/\Nu O O'
 |_::_,[]=>False
def Nu.mem: ∀{O O' :List OE},Nu O O' -> ∀k,(∃f∈O,f.fp k)-> ∃f∈O',f.fp k
 |f::O,g::O',⟨X,K⟩,k,⟨q,hq,hk⟩=>by
  rcases kj.1 hq with e|e
  ·subst e;exact⟨g,qa ..,X k hk⟩
  ·obtain⟨q',h3,h4⟩:=Nu.mem K k ⟨q,e,hk⟩
   exact⟨q',ry _ h3,h4⟩

variable{O1:List OE}{ι:Type}{O2:ι->List OE}
def ru: ∀{O1 O2:List OE},fe base B w S (O1++O2)->fe base B w S O1/\fe base B w S O2/\ ∀e∈O1,∀f∈O2,e.apart f
 |[],_,h=>⟨trivial,h,fun _ h=>(by cases h)⟩
 |e::O1,O2,⟨X,K,h3⟩=>by
  obtain⟨k1,k2,k3⟩:=ru h3
  refine⟨⟨X,fun f hf=>K f (DO _ hf),k1⟩,k2,fun g Y f hf=>?_⟩
  rcases kj.1 Y with rfl|Y
  ·exact K f (List.mem_append_right _ hf)
  ·exact k3 g Y f hf
section
section
variable{ty:TypeId}
end
end


section
variable{R:Ending->World->Prop}{ds:List Deferred}
end
def rT(t:Ty):Rp Unit where
 sz:=1
 agg:=false
 rc:=fun S cs _=> ∃v,cs=[v]/\v.oneCell' =true/\t.p S v
 mono:=fun h ⟨v,e,k,l⟩=>⟨v,e,k,t.mono h l⟩
 len:=fun⟨_,e,_⟩=>by rw [e];rfl
 one:=fun⟨v,e,k,_⟩ c hc=>by rw [e]at hc;simp at hc;subst hc;exact k
 sc:=fun _=>rfl
def tRT{t:Ty}{u:Unit}{v:Value}:(tD (rT t) u).p S v↔v.oneCell' =true/\t.p S v:=by
 constructor
 ·rintro⟨cs,rfl,w,rfl,X,K⟩;exact⟨X,K⟩
 ·rintro⟨X,K⟩;exact⟨[v],rfl,v,rfl,X,K⟩
variable{cap:Nat}{get:α->β}{k' :IntKind}{lo:Int}{ys:List α}
section
variable{ty:TypeId}
def cI.imp{t u:Ty}(h:cI E O G o t)(k: ∀S v,t.p S v->u.p S v):cI E O G o u:=fun a w S hs ho hf=>
 oO (fun _ _ ⟨v,S',X,K,h3,h4⟩=>⟨v,S',X,K,h3,k S' v h4⟩) (h a w S hs ho hf)
def J6{t:Ty}{p:Operand}(ti:TI E.P U 1 bytes false z)(hp:aY E.N G p (ck (rT t) ())):cI E O G ⟨dst,.load U p,ty,pos,after,g⟩ t:=
 (ej (r:=rT t) (x:=()) ti rfl rfl hp).imp fun _ _ h=>(tRT.1 h).2

def HX:rV.rc S [.slice none 0 0] (ay none 0 0):=⟨rfl,rfl⟩
def FI{N:Fr}(h:aY N G x (M (ay l cap n))):aY N G x (tD rV (ay l cap n)):=fun S a hf=>yV.2 ⟨h S a hf,by cases l<;>rfl⟩
def qL{p:Operand}(ti:TI E.P U 1 bytes false z)(hm:bx rV T b (ay l cap n)∈O)(hp:aY E.N G p (M (Z b 0))):
  cI E O G ⟨dst,.load U p,ty,pos,after,g⟩ (M (ay l cap n)):=(aL (q:=rV) (get:=fun x=>x) ti rfl rfl bC hm hp).imp fun _ _ h=>(yV.1 h).1

def eX{α:Type}(xs:List α)(lo hi:Int):Option (List α):=if 0<=lo/\lo<=hi/\hi<=(xs.length:Int)then some ((xs.take hi.toNat).drop lo.toNat)else none
def gY(h:eX xs lo hi=some ys): ∃l m:Nat,lo=l/\hi=m/\l<=m/\m<=xs.length/\ys=(xs.take m).drop l:=by
 unfold eX at h
 split at h
 ·rename_i hc
  exact⟨lo.toNat,hi.toNat,by omega,by omega,by omega,by omega,by simpa using h.symm⟩
 ·cases h
def Aa{a:Option Addr}{l:Nat}(h:GC r S a xs)(hl:l<=m)(hm:m<=xs.length)(hc:xs.length<=cap):
  GC r S (if cap=l then a else a.map (·.add (l*r.sz))) ((xs.take m).drop l):=by
 by_cases hlm:l=m
 ·left;subst hlm;simp
 right
 rcases h with h|⟨b,off,c,T,fr,e1,e2,e3⟩
 ·subst h;simp at hm;omega
 subst e1
 have hne: ¬(cap=l):=by omega
 refine⟨b,off+l*r.sz,c,T,fr,?_,e2,?_⟩
 ·rw [bk hne];simp [Addr.add]
 have hlen:((xs.take m).drop l).length=m-l:=by simp;omega
 have e4:xs=(xs.take m).take l++((xs.take m).drop l++xs.drop m):=by
  rw [<-pe,ui,ui]
 have X:((xs.take m).take l).length=l:=by simp;omega
 rw [e4]at e3
 have K:=(ri e3).2
 have h3:=(ri K).1
 rw [X]at h3
 rw [hlen]at h3 ⊢
 rw [<-e4]at h3
 rw [zC,AI,uV]at h3
 have hmin:min ((m-l)*r.sz) (xs.length*r.sz-l*r.sz)=(m-l)*r.sz:=by
  rw [<-Nat.sub_mul];exact xK (AN _ (by omega))
 rwa [hmin]at h3
def nv{n:Int}{y:Nat}{code:BoundsCode}(h0:0<=n)(X:n<=y):(Instr.sliceBound (.int k n) y code).run P w= .ok n.toNat w:=by
 simp [Instr.sliceBound,asIntOf,h0,X]
def LH{hi:Operand}(D:E.P.underlying t=some (.slice T))(ti:TI E.P T sz bytes agg z)(hsz:r.sz=sz)(V:aY E.N G x (tD (f6 r) xs))(hhi:aY E.N G hi (tD (rI k') j))(h:eX xs 0 j=some ys):cI E O G ⟨dst,.slice t x none (some hi) none,ty,pos,after,g⟩ (tD (f6 r) ys):=
 .of_pure fun a w S _ _ hf=>by
  subst hsz
  obtain⟨ad,cap,X,K,h3,h4⟩:=mf.1 (V S a hf)
  have h6:=eK.1 (hhi S a hf)
  obtain⟨l,m,hl,rfl,h7,h8,rfl⟩:=gY h
  have hl0:l=0:=by omega
  subst hl0
  have hlen:((xs.take m).drop 0).length=m-0:=by simp;omega
  refine⟨.slice (if cap=0 then ad else ad.map (·.add (0*r.sz))) (m-0) (cap-0),?_,mf.2 ⟨_,cap-0,by rw [hlen],by omega,by omega,Aa h4 h7 h8 K⟩⟩
  simp [execOp,Instr.sliceAt,X,h6,Instr.slice,j3 D,Instr.sliceBounds,nv (k:=k') (n:=(m:Int)) (y:=cap) (by omega) (by omega),ti.sizeOf]
def LF{lo:Operand}{i:Int}(D:E.P.underlying t=some (.slice T))(ti:TI E.P T sz bytes agg z)(hsz:r.sz=sz)(V:aY E.N G x (tD (f6 r) xs))(hlo:aY E.N G lo (tD (rI k) i))(h:eX xs i (xs.length:Int)=some ys):cI E O G ⟨dst,.slice t x (some lo) none none,ty,pos,after,g⟩ (tD (f6 r) ys):=
 .of_pure fun a w S _ _ hf=>by
  subst hsz
  obtain⟨ad,cap,X,K,h3,h4⟩:=mf.1 (V S a hf)
  have h5:=eK.1 (hlo S a hf)
  obtain⟨l,m,rfl,hm,h7,h8,rfl⟩:=gY h
  have hm' :m=xs.length:=by omega
  subst hm'
  have hlen:((xs.take xs.length).drop l).length=xs.length-l:=by simp
  refine⟨.slice (if cap=l then ad else ad.map (·.add (l*r.sz))) (xs.length-l) (cap-l),?_,mf.2 ⟨_,cap-l,by rw [hlen],by omega,by omega,Aa h4 h7 h8 K⟩⟩
  simp [execOp,Instr.sliceAt,X,h5,Instr.slice,j3 D,Instr.sliceBounds,nv (k:=k) (n:=(l:Int)) (y:=xs.length) (by omega) (by omega),ti.sizeOf]
end
def qN{id:Nat}(m:Nat)(hm:E.P.follows .mixedOrders=true)(hsl:wL E.N.n [] (L.take m)=true)(hlen:ts.length=(L.take m).length)(D:zI L (L.take m).length (L.drop m).length=true)(hd:DR E O G L ts 0 (L.take m))(k:RG E L.toArray aK (L.drop m) O (LD (L.take m) ts G)):CG E aK (.region id L.toArray true) O G:=SJ (ui m L).symm hm hsl hlen D hd k

def mn(P:Program){α:Type} [DecidableEq α](t:TypeId)(r:Rp α)(n:Nat):Prop:=
 ∀(S:SH) (cs ds:List Value) (x y:α) (aR:Nat) (w:World),r.rc S cs x->r.rc S ds y->(Op.equalIn (aR+n) t (r.val cs) (r.val ds)).run P w= .ok (decide (x=y)) w
def s5(h:P.underlying t=some (.int k')):mn P t (rI k) (n+1):=fun S cs ds x y aR w V hy=>by
 have X:cs=[.int k x]:=V
 have K:ds=[.int k y]:=hy
 subst X K
 have:(Op.equalIn (aR+n+1) t (.int k x) (.int k y)).run P w= .ok (x==y) w:=by simp [Op.equalIn,j3 h]
 have e:(x==y)=decide (x=y):=by by_cases h:x=y<;>simp [h]
 rw [e]at this
 exact this
def R4(h:P.underlying t=some .bool):mn P t rB (n+1):=fun S cs ds x y aR w V hy=>by
 have X:cs=[.bool x]:=V
 have K:ds=[.bool y]:=hy
 subst X K
 have:=run_equalIn_bool' (P:=P) w (aR+n) t x y h
 simp only [Rp.val,rB,List.headD_cons,r0,oV]
 rw [show aR+(n+1)=aR+n+1 from rfl,this]
 cases x<;>cases y<;>rfl
def U4(h:P.underlying t=some .string):mn P t rS (n+1):=fun S cs ds x y aR w V hy=>by
 have X:cs=[.string ⟨x.toArray⟩]:=V
 have K:ds=[.string ⟨y.toArray⟩]:=hy
 subst X K
 have:=run_equalIn_string (P:=P) w (aR+n) t ⟨x.toArray⟩ ⟨y.toArray⟩ h
 simp only [Rp.val,rS,List.headD_cons,r0,oV]
 rw [show aR+(n+1)=aR+n+1 from rfl,this]
 simp only [ByteArray.toList_eq]
 by_cases e:x=y<;>simp [e]
abbrev Fd:=TypeId×Nat×Bool
def L6(f:Field):Fd:=(f.type,f.offset,f.name== "_")
def Ps(aR:Nat)(xs ys:Array Value):List Fd->Sem Bool
 |[]=>pure true
 |f::fs=>
  if f.2.2=false then do
   let a<-part f.1 xs f.2.1
   let b<-part f.1 ys f.2.1
   let r<-Op.equalIn aR f.1 a b
   if(!r)=true then pure false else Ps aR xs ys fs
  else Ps aR xs ys fs
def Kz(aR:Nat)(xs ys:Array Value): ∀fs:List Field,Op.eqFields aR xs ys fs=Ps aR xs ys (fs.map L6)
 |[]=>rfl
 |f::fs=>by
  unfold Op.eqFields Ps
  rw [Kz aR xs ys fs]
  by_cases h:f.name= "_"
  ·have e:((L6 f).2.2=false)=False:=by simp [L6,h]
   simp only [DL,e,oV]
   rw [bk (by simpa using h)]
  ·have e:((L6 f).2.2=false)=True:=by simp [L6,h]
   simp only [DL,e,mG]
   rw [bJ (by simpa using h)]
   rfl
def Hr(P:Program){α:Type}(r:Rp α)(n:Nat)(fs:List Fd)(c:α->α->Bool):Prop:=
 ∀(S:SH) (cs ds:List Value) (x y:α) (aR:Nat) (w:World),r.rc S cs x->r.rc S ds y->(Ps (aR+n) cs.toArray ds.toArray fs).run P w= .ok (c x y) w
def Hr.nil:Hr P r n [] (fun _ _=>true):=fun _ _ _ _ _ _ _ _ _=>rfl
def tN(ti:TI P t sz bytes agg z)(hsz:q.sz=sz)(hag:q.agg=agg)(hf:md r off q get){cs:List Value}{x:α}(V:r.rc S cs x)(w:World):
  (part t cs.toArray off).run P w= .ok (q.val ((cs.drop off).take q.sz)) w:=by
 have h:=hf S cs x V
 have hl:=q.len h
 subst hsz hag
 unfold part
 by_cases ha:q.agg=true
 ·have e1:=ti.isAgg w
  simp only [uU,e1,ha,vY,mG,ti.sizeOf,Sem.run_pure]
  unfold Rp.val
  rw [bJ ha]
  congr 2
  apply Array.ext'
  simp
 ·rw [AL]at ha
  have e1:=ti.isAgg w
  have hs1:=q.sc ha
  simp only [uU,e1,ha,vY,r0,oV]
  rw [hs1]at hl ⊢
  obtain⟨v,hv⟩:=List.length_eq_one_iff.1 hl
  have hc:cs[off]? =some v:=by
   have:((cs.drop off).take 1)[0]? =some v:=by rw [hv];rfl
   rw [zu (by omega),wF]at this
   simpa using this
  unfold Rp.val
  rw [hv,ha]
  simp [hc]
def Hr.cons [DecidableEq β]{t:Nat}{fs:List Fd}{c:α->α->Bool}(ti:TI P t sz bytes agg z)(hsz:q.sz=sz)(hag:q.agg=agg)(hf:md r off q get)(he:mn P t q n)(hr:Hr P r n fs c):
  Hr P r n ((t,off,false)::fs) (fun x y=>decide (get x=get y)&&c x y):=fun S cs ds x y aR w V hy=>by
 have X:=tN ti hsz hag hf V w
 have K:=tN ti hsz hag hf hy w
 have h3:=he S _ _ _ _ aR w (hf S cs x V) (hf S ds y hy)
 unfold Ps
 simp only [mG,uU,X,K,h3,vY]
 by_cases e:get x=get y
 ·simp only [e,decide_true,ug,r0,oV,oX]
  exact hr S cs ds x y aR w V hy
 ·simp [e]
def Ay [DecidableEq α]{t:Nat}{fs:List Fd}{c:α->α->Bool}(D:(P.underlying t).map (fun aR=>match aR with| .struct l=>(true,l.toList.map L6)|_=>(false,[]))=some (true,fs))(hp:P.stoodInHeld t=false)(ha:r.agg=true)(hr:Hr P r n fs c)(hc: ∀x y,c x y=decide (x=y)):mn P t r (n+1):=fun S cs ds x y aR w V hy=>by
 obtain⟨l,X,K⟩: ∃l,P.underlying t=some (.struct l)/\l.toList.map L6=fs:=by
  cases hu:P.underlying t with
  |none=>rw [hu]at D;cases D
  |some aR=>
   rw [hu]at D
   cases aR<;>simp at D
   exact⟨_,rfl,D⟩
 have hfo:P.fieldsOf t=l:=by unfold Program.fieldsOf;rw [X]
 have:=run_equalIn_struct (P:=P) w (aR+n) t cs.toArray ds.toArray (by rw [hfo];exact X) hp
 rw [tI ha,tI ha,show aR+(n+1)=aR+n+1 from rfl,this,hfo,Kz,K,hr S cs ds x y aR w V hy,hc]
def li [DecidableEq α](h:mn P t r n)(m:Nat):mn P t r (m+n):=fun S cs ds x y aR w V hy=>by
 have:=h S cs ds x y (aR+m) w V hy
 rwa [Nat.add_assoc]at this
def KY.of [DecidableEq α](Y:P.eqGuardType P.depth t=false)(h:mn P t r 20):KY P t r:=⟨Y,fun S cs ds x y aR w V hy=>h S cs ds x y aR w V hy⟩

def NL{l:List α}{e:α}(h:xs.drop i=e::l):decide ((i:Int)<(xs.length:Int))=true:=by
 have:i<xs.length:=by
  rcases qb i xs.length with h' |h'
  ·exact h'
  ·rw [Hy h']at h;cases h
 simp;omega
def Sa(h:xs.drop i=[]):decide ((i:Int)<(xs.length:Int))=false:=by
 have:=xO.1 h
 simp;omega
def da{l:List α}{e:α}(h:xs.drop i=e::l):xs.drop (i+1)=l:=by
 rw [<-uV,h];rfl
def dJ{l:List α}{e:α}(h:xs.drop i=e::l):gB xs (i:Int)=some e:=by
 rw [eu]
 have:=wF (xs:=xs) (i:=i) (j:=0)
 rw [h]at this
 simpa using this.symm
def VQ{l:List α}{e:α}(h:xs.drop i=e::l)(hN:xs.length<=maxLen):i<9223372036854775807:=by
 have:=of_decide_eq_true (NL h)
 simp only [maxLen]at hN
 omega
def Zw{k:Nat}(h:N-i=k+1):decide ((i:Int)<(N:Int))=true:=by simp;omega
def Zx(h:N-i=0):decide ((i:Int)<(N:Int))=false:=by simp;omega
def WT{k:Nat}(h:N-i=k+1):N-(i+1)=k:=by omega
def WU{k:Nat}(h:N-i=k+1)(hN:N<=9223372036854775807):i<9223372036854775807:=by omega
def Zz(h:n<=maxLen):n<=9223372036854775807:=by simp only [maxLen]at h;omega
variable{ix:Operand}{mm:Bool}{ops:Array Oper}{zs:List α}
section
variable{e:Exit}
section
variable{ty:TypeId}
def Du{one:Operand}{xt yt:TypeId}(hi:i<9223372036854775807)(V:aY E.N G x (tD (rI .i64) (i:Int)))(X:aY E.N G one (tD (rI .i64) 1)):
  cI E O G ⟨dst,.binOp .add xt x one yt,ty,pos,after,g⟩ (tD (rI .i64) ((i+1:Nat):Int)):=by
 have e:IntKind.i64.wrap ((i:Int)+1)=((i+1:Nat):Int):=by
  rw [rF];omega
 have:=cW (E:=E) (O:=O) (dst:=dst) (ty:=ty) (pos:=pos) (after:=after) (g:=g) (xt:=xt) (yt:=yt) V X
 rwa [e]at this
end
def B2(hm:nd mm r T l cap xs∈O)(h:xs.length<=maxLen->CG E aK c O G):CG E aK c O G:=fun a w S st=>by
 refine h ?_ a w S st
 obtain⟨cells,X,_⟩:=(st.own.mem _ hm).1
 cases l with
 |none=>have:=X.1;omega
 |some b=>obtain⟨cur,_,g2,g3,_⟩:=X;exact xR g2 g3
def St.dataAt{k:Nat}(h:St E O G a w S)(hk:cC G k=some (tO r l cap xs)):St E O ((k,tD (f6 r) xs)::G) a w S:=h.cons (h.facts.at_ k _ hk).2
def PO(k:Nat)(hk:cC G k=some (tO r l cap xs))(h:CG E aK c O ((k,tD (f6 r) xs)::G)):CG E aK c O G:=fun a w S st=>h a w S (st.dataAt hk)
def eW(k:Nat)(hk:cC G k=some (tO r l cap xs))(h:AT E aK e O ((k,tD (f6 r) xs)::G)):AT E aK e O G:=fun a w S st=>h a w S (st.dataAt hk)
def Az(l:Option Nat)(off:Nat):Value:=
 match l with
 |none=> .pointer none
 |some b=>Z b off
def yf(h:AE mm r T l cap xs w S){e:α}(hi:xs[i]? =some e):
  ∃b cur,l=some b/\w.heap[b]? =some (.cells cur T (0,0))/\xs.length<=cap/\cur.size=cap*r.sz/\r.rc S ((cur.toList.drop (i*r.sz)).take r.sz) e:=by
 obtain⟨cells,X,K,_⟩:=h
 have hlt:=(tp.1 hi).1
 cases l with
 |none=>have:=X.1;omega
 |some b=>
  obtain⟨cur,g1,g2,g3,g4,g5⟩:=X
  refine⟨b,cur,rfl,g1,g2,g4,?_⟩
  have h3:=A9 K hi
  rw [<-g5,zC,AI]at h3
  have h4:i*r.sz+r.sz<=xs.length*r.sz:=by
   rw [<-Nat.succ_mul];exact AN _ hlt
  rwa [xK (by omega)]at h3
def ow{i:Int}{e:α}(h:gB xs i=some e):0<=i/\xs[i.toNat]? =some e:=by
 unfold gB at h
 split at h
 ·exact⟨by assumption,h⟩
 ·cases h
section
variable{ty:TypeId}
def eH{e:TypeId}{i:Int}(D:E.P.underlying t=some (.slice e))(ti:TI E.P e sz bytes agg z)(hm:nd mm r U l cap xs∈O)(V:aY E.N G x (M (ay l cap n)))(hi:aY E.N G ix (tD (rI k) i))(hy:gB xs i=some y)(hn:n=xs.length:=by rfl):
  cI E O G ⟨dst,.indexAddr t x ix,ty,pos,after,g⟩ (M (Az l (i.toNat*sz+0))):=
 .of_pure fun a w S _ ho hf=>by
  subst hn
  have X:a.eval x=ay l cap xs.length:=V S a hf
  have h3:a.eval ix= .int k i:=eK.1 (hi S a hf)
  obtain⟨h0,hy'⟩:=ow hy
  obtain⟨b,cur,rfl,_⟩:=yf (ho.mem _ hm).1 hy'
  have hlt:i.toNat<xs.length:=(tp.1 hy').1
  refine⟨_,?_,rfl⟩
  have hc:0<=i/\i<(xs.length:Int):=⟨h0,by omega⟩
  simp [execOp,X,h3,ay,Instr.indexAt,asIntOf,j3 D,hc,ti.sizeOf,jR,Az,Z]
def jP{foff:Nat}{i:Int}{p:Operand}(ti:TI E.P T sz bytes agg z)(hsz:q.sz=sz)(hag:q.agg=agg)(hget:md r foff q get)(hoff:Nat.ble (foff+q.sz) r.sz=true)(hm:nd mm r U l cap xs∈O)(hy:gB xs i=some y)(hp:aY E.N G p (M (Az l (i.toNat*r.sz+foff)))):cI E O G ⟨dst,.load T p,ty,pos,after,g⟩ (tD q (get y)):=
 .of_pure fun a w S _ ho hf=>by
  have X:a.eval p=Az l (i.toNat*r.sz+foff):=hp S a hf
  obtain⟨h0,hy'⟩:=ow hy
  obtain⟨b,cur,rfl,H,_,_,h6⟩:=yf (ho.mem _ hm).1 hy'
  have hoff' :=sn hoff
  have h7:=hget S _ _ h6
  rw [zC,AI,uV,xK (by omega)]at h7
  refine⟨_,?_,_,rfl,h7⟩
  simp [execOp,X,Az,Z,Instr.loadAt,Instr.sureAddr,ko ti H hsz hag h7]
end
def Ds{α:Type}{r:Rp α}{S:SH}{y:α}{c:List Value}(hc:r.rc S c y): ∀{xs:List α} {i:Nat} {cs:List Value},sh r S cs xs->i<xs.length->sh r S (cs.take (i*r.sz)++c++cs.drop (i*r.sz+r.sz)) (xs.set i y)
 |[],_,_,_,h=>by simp at h
 |x::xs,0,cs,⟨a,b,e,X,K⟩,_=>by
  have hl:=r.len X
  refine⟨c,b,?_,hc,K⟩
  rw [e,<-hl];simp
 |x::xs,i+1,cs,⟨a,b,e,X,K⟩,h=>by
  have hl:=r.len X
  have ih:=Ds hc K (i:=i) (by simpa using h)
  refine⟨a,_,?_,X,ih⟩
  have e1:(i+1)*r.sz=a.length+i*r.sz:=by rw [hl,xI];omega
  rw [e,e1,List.take_length_add_append,Nat.add_assoc,List.drop_length_add_append]
  simp
def zf{set:α->β->α}{foff:Nat}{v:β}{i:Int}{p:Operand}{ty:TypeId}(ti:TI E.P T sz bytes agg z)(hsz:q.sz=sz)(hset:gg r foff q set)(hoff:Nat.ble (foff+q.sz) r.sz=true)(hy:gB xs i=some y)(hz:xs.set i.toNat (set y v)=zs)(hp:aY E.N G p (M (Az l (i.toNat*r.sz+foff))))(V:aY E.N G x (tD q v))(k:RG E ops aK rest (db r U l cap zs::O) G):
  RG E ops aK (⟨none,.store T p x,ty,pos,after,none⟩::rest) (db r U l cap xs::O) G:= .of rfl fun a w S st=>by
 subst hz
 have X:a.eval p=Az l (i.toNat*r.sz+foff):=hp S a st.facts
 obtain⟨ds,K,h3⟩:=V S a st.facts
 obtain⟨h0,hy'⟩:=ow hy
 have hlt:i.toNat<xs.length:=(tp.1 hy').1
 obtain⟨cells,hraw,hrc,hno⟩:=st.own.1.1
 obtain⟨b,cur,rfl,H,hle,hcs,h6⟩:=yf st.own.1.1 hy'
 obtain⟨cur',hb',hle',hmax,hcs',hct⟩:=hraw
 have hcc:cur' =cur:=by rw [H]at hb';injection hb' with e;injection e with e1;exact e1.symm
 subst hcc
 have hno' :S b=none:=hno b rfl
 have hoff' :=sn hoff
 have hl3:=q.len h3
 have hmul:i.toNat*r.sz+r.sz<=xs.length*r.sz:=by rw [<-Nat.succ_mul];exact AN _ hlt
 have hmul2:xs.length*r.sz<=cur'.size:=by rw [hcs];exact AN _ hle
 obtain⟨w',hr,e1,e2,e3,e4,e5,e6⟩:=kW ti hsz h3 H (off:=i.toNat*r.sz+foff) (by omega)
 have hrun:(execOp a.eval ⟨none,.store T p x,ty,pos,after,none⟩).run E.P w= .ok .skip w' :=by
  simp [execOp,X,K,Instr.storeAt,Az,Z,Instr.sureAddr,hr]
 refine⟨fun c h=>(by cases h),?_⟩
 rw [hrun]
 have hnew:=hset S _ _ _ _ h6 h3
 have hrc' :=Ds hnew hrc hlt
 have hcl:=ll hrc
 have hcells:(cur'.toList.take (i.toNat*r.sz+foff)++ds++cur'.toList.drop (i.toNat*r.sz+foff+q.sz)).take (xs.length*r.sz)=
   cells.take (i.toNat*r.sz)++(((cur'.toList.drop (i.toNat*r.sz)).take r.sz).take foff++ds++((cur'.toList.drop (i.toNat*r.sz)).take r.sz).drop (foff+q.sz))++cells.drop (i.toNat*r.sz+r.sz):=by
  subst hct
  apply List.ext_getElem?
  intro j
  simp only [List.getElem?_take,List.getElem?_append,wF,DE,De,mq,CN]
  rcases qb j (xs.length*r.sz)with hj|hj
  ·simp only [hj,mG]
   rcases qb j (i.toNat*r.sz)with hj1|hj1
   ·rw [bJ (by omega),bJ (by omega),bJ (by omega),bJ (by omega),bJ (by omega),bJ (by omega)]
   ·rcases qb j (i.toNat*r.sz+foff)with hj2|hj2
    ·rw [bJ (by omega),bJ (by omega),bJ (by omega),bJ (by omega),bk (by omega),bJ (by omega),bJ (by omega),bJ (by omega),bJ (by omega)]
     congr 1;omega
    ·rcases qb j (i.toNat*r.sz+foff+q.sz)with hj3|hj3
     ·rw [bJ (by omega),bk (by omega),bJ (by omega),bk (by omega),bJ (by omega),bk (by omega)]
      congr 1;omega
     ·rw [bk (by omega)]
      rcases qb j (i.toNat*r.sz+r.sz)with hj4|hj4
      ·rw [bJ (by omega),bk (by omega),bk (by omega),bJ (by omega)]
       congr 1;omega
      ·rw [bk (by omega),bJ (by omega)]
       congr 1;omega
  ·rw [bk (by omega),bk (by omega),bk (by omega)]
 obtain⟨g1,g2,g3⟩:=oN (O:=O) st.sat (db r U (some b) cap xs) (db r U (some b) cap (xs.set i.toNat (set y v))) st.own (fun k=>⟨fun h=>(rE h).symm,fun h=>by rw [h];rfl⟩) (fun k=>⟨fun h=>(rE h).symm,fun h=>by rw [h];rfl⟩) ⟨e1,e2,e3,e4.1,e4.2⟩ e6
  ⟨_,⟨_,e5,by rw [Dd];exact hle,hmax,by simp only [Gh,mq,DE,De,CN];omega,by rw [Dd];exact hcells⟩,hrc',fun k hk=>by rw [<-rE hk];exact hno'⟩ hno'
 exact k _ _ S ⟨st.ext.step g1 (fun c hc=>st.own.1.2 c (by rw [hc];rfl)),g2,g3,st.facts⟩

def oZ(sz:Nat)(l:Option Nat)(cap lo n:Nat):Value:=
 match l with
 |none=> .slice none 0 0
 |some b=> .slice (some ⟨b,if cap=lo then 0 else lo*sz,none⟩) n (cap-lo)
section
variable{ty:TypeId}
def GT(h:AE mm r U l cap xs w S): ∃ad c,ay l cap xs.length= .slice ad xs.length c/\xs.length<=c/\ad=l.map (fun b=>⟨b,0,none⟩)/\(l=none->c=0/\xs=[])/\(l≠none->c=cap):=by
 obtain⟨cells,X,_⟩:=h
 cases l with
 |none=>
  have V:xs=[]:=tH X.1
  subst V
  exact⟨none,0,rfl,eJ _,rfl,fun _=>⟨rfl,rfl⟩,fun h=>absurd rfl h⟩
 |some b=>
  obtain⟨cur,_,g2,_⟩:=X
  exact⟨_,cap,rfl,g2,rfl,fun h=>(by cases h),fun _=>rfl⟩
def pO{hi:Operand}(D:E.P.underlying t=some (.slice T))(ti:TI E.P T sz bytes agg z)(hsz:r.sz=sz)(hm:nd mm r U l cap xs∈O)(V:aY E.N G x (M (ay l cap n)))(hhi:aY E.N G hi (tD (rI k') j))(h:eX xs 0 j=some ys)(hn:n=xs.length:=by rfl):cI E O G ⟨dst,.slice t x none (some hi) none,ty,pos,after,g⟩ (M (ay l cap ys.length)):=
 .of_pure fun a w S _ ho hf=>by
  subst hsz
  subst hn
  have X:a.eval x=ay l cap xs.length:=V S a hf
  obtain⟨ad,c,K,h3,h4,h5,h5'⟩:=GT (ho.mem _ hm).1
  have h6:=eK.1 (hhi S a hf)
  obtain⟨lo,m,hl,rfl,h7,h8,rfl⟩:=gY h
  have hl0:lo=0:=by omega
  subst hl0
  have hlen:((xs.take m).drop 0).length=m:=by simp;omega
  refine⟨_,?_,rfl⟩
  rw [K]at X
  have hr:(execOp a.eval ⟨dst,.slice t x none (some hi) none,ty,pos,after,g⟩).run E.P w= .ok (.value (.slice ad m c)) w:=by
   simp [execOp,Instr.sliceAt,X,h6,Instr.slice,j3 D,Instr.sliceBounds,nv (k:=k') (n:=(m:Int)) (y:=c) (by omega) (by omega),ti.sizeOf]
   cases ad<;>simp [Addr.add]
  rw [hr,hlen,h4]
  cases l with
  |none=>
   obtain⟨rfl,rfl⟩:=h5 rfl
   have:m=0:=by simpa using h8
   subst this;rfl
  |some b=>rw [h5' (by simp)];rfl
def rl{lo:Operand}{i:Int}(D:E.P.underlying t=some (.slice T))(ti:TI E.P T sz bytes agg z)(hsz:r.sz=sz)(hm:nd mm r U l cap xs∈O)(V:aY E.N G x (M (ay l cap n)))(hlo:aY E.N G lo (tD (rI k) i))(h:eX xs i (xs.length:Int)=some ys)(hn:n=xs.length:=by rfl):cI E O G ⟨dst,.slice t x (some lo) none none,ty,pos,after,g⟩ (M (oZ sz l cap i.toNat ys.length)):=
 .of_pure fun a w S _ ho hf=>by
  subst hsz
  subst hn
  have X:a.eval x=ay l cap xs.length:=V S a hf
  obtain⟨ad,c,K,h3,h4,h5,h5'⟩:=GT (ho.mem _ hm).1
  have h6:=eK.1 (hlo S a hf)
  obtain⟨lo',m,rfl,hm',h7,h8,rfl⟩:=gY h
  have hm2:m=xs.length:=by omega
  subst hm2
  have hlen:((xs.take xs.length).drop lo').length=xs.length-lo' :=by simp
  refine⟨_,?_,rfl⟩
  rw [K]at X
  have hr:(execOp a.eval ⟨dst,.slice t x (some lo) none none,ty,pos,after,g⟩).run E.P w= .ok (.value (.slice (if c=lo' then ad else ad.map (·.add (lo' *r.sz))) (xs.length-lo') (c-lo'))) w:=by
   simp [execOp,Instr.sliceAt,X,h6,Instr.slice,j3 D,Instr.sliceBounds,nv (k:=k) (n:=(lo' :Int)) (y:=xs.length) (by omega) (by omega),ti.sizeOf]
  rw [hr,hlen,h4]
  cases l with
  |none=>
   obtain⟨rfl,rfl⟩:=h5 rfl
   have:lo' =0:=by simpa using h7
   subst this;rfl
  |some b=>
   rw [h5' (by simp)]
   unfold oZ
   simp only [xM,xB,jR,uT]
   split<;>rfl
def z8{i:Int}(h:eX xs lo hi=some ys)(hy:gB ys i=some y):gB xs (lo+i)=some y/\0<=lo/\0<=i:=by
 obtain⟨l,m,rfl,rfl,X,K,rfl⟩:=gY h
 obtain⟨h0,h3⟩:=ow hy
 refine⟨?_,by omega,h0⟩
 obtain⟨j,rfl⟩: ∃j:Nat,i=j:=⟨i.toNat,by omega⟩
 rw [show((l:Int)+(j:Int))=((l+j:Nat):Int)from by omega,eu]
 rw [wF,xM]at h3
 have hlt:l+j<m:=by
  have:=(tp.1 h3).1
  simp at this;omega
 rwa [zu hlt]at h3
def zO{e:TypeId}{i:Int}(D:E.P.underlying t=some (.slice e))(ti:TI E.P e sz bytes agg z)(hsz:r.sz=sz)(hm:nd mm r U l cap xs∈O)(hs:eX xs lo hi=some ys)(V:aY E.N G x (M (oZ sz l cap lo.toNat ys.length)))(hi' :aY E.N G ix (tD (rI k) i))(hy:gB ys i=some y):
  cI E O G ⟨dst,.indexAddr t x ix,ty,pos,after,g⟩ (M (Az l ((lo+i).toNat*sz+0))):=
 .of_pure fun a w S _ ho hf=>by
  subst hsz
  have X:a.eval x=oZ r.sz l cap lo.toNat ys.length:=V S a hf
  have h3:a.eval ix= .int k i:=eK.1 (hi' S a hf)
  obtain⟨hxi,hl0,hi0⟩:=z8 hs hy
  obtain⟨_,hx'⟩:=ow hxi
  obtain⟨b,cur,rfl,_,hle,_⟩:=yf (ho.mem _ hm).1 hx'
  have hlt:i.toNat<ys.length:=(tp.1 (ow hy).2).1
  have hlt2:(lo+i).toNat<xs.length:=(tp.1 hx').1
  have hne: ¬(cap=lo.toNat):=by omega
  refine⟨_,?_,rfl⟩
  have hc:0<=i/\i<(ys.length:Int):=⟨hi0,by omega⟩
  have e1:(lo+i).toNat=lo.toNat+i.toNat:=by omega
  simp [execOp,X,h3,oZ,hne,Instr.indexAt,asIntOf,j3 D,hc,ti.sizeOf,jR,Az,Z,e1,xI]
def Nh{e:TypeId}(D:E.P.underlying t=some (.slice e))(hm:nd mm r U l cap xs∈O)(hs:eX xs lo hi=some ys)(V:aY E.N G x (M (oZ sz l cap lo.toNat ys.length))):
  cI E O G ⟨dst,.call ⟨.builtin .len,#[x],#[t]⟩,ty,pos,after,g⟩ (tD (rI .i64) (ys.length:Int)):=
 .of_pure fun a w S _ ho hf=>by
  have X:a.eval x=oZ sz l cap lo.toNat ys.length:=V S a hf
  obtain⟨ad,c,h3⟩: ∃ad c,oZ sz l cap lo.toNat ys.length= .slice ad ys.length c:=by
   cases l with
   |none=>
    obtain⟨_,K,_⟩:=(ho.mem _ hm).1
    have hx0:xs=[]:=tH K.1
    subst hx0
    obtain⟨l',m,_,_,_,h8,rfl⟩:=gY hs
    exact⟨none,0,by simp [oZ]⟩
   |some b=>exact⟨_,_,rfl⟩
  refine⟨.int .i64 ys.length,?_,eK.2 rfl⟩
  simp [execOp,resolve,invoke,builtin,Builtin.len_,j3 D,X,h3,goInt]
end
def NZ(h:eX xs 0 j=some ys)(k:AE false r U l cap xs w S):AE false r U l cap ys w S:=by
 obtain⟨lo,m,hl,rfl,h7,h8,rfl⟩:=gY h
 have hl0:lo=0:=by omega
 subst hl0
 obtain⟨cells,X,K,h3⟩:=k
 have hlen:((xs.take m).drop 0).length=m:=by simp;omega
 have h4:sh r S (cells.take (m*r.sz)) (xs.take m):=by
  have e:xs=xs.take m++xs.drop m:=(ui _ _).symm
  rw [e]at K
  have:=(ri K).1
  rwa [show(xs.take m).length=m from by simp;omega]at this
 refine⟨cells.take (m*r.sz),?_,by simpa using h4,fun b H=>h3 b H⟩
 rw [hlen]
 cases l with
 |none=>
  obtain⟨g1,g2⟩:=X
  exact⟨by omega,by rw [g2];simp⟩
 |some b=>
  obtain⟨cur,g1,g2,g3,g4,g5⟩:=X
  exact⟨cur,g1,by omega,g3,g4,by rw [<-g5,AI,xK (AN _ h8)]⟩
def St.cut(h:eX xs 0 j=some ys)(st:St E (db r U l cap xs::O) G a w S):St E (db r U l cap ys::O) G a w S:=
 st.own_map fun ho=>⟨⟨NZ h ho.1.1,ho.1.2⟩,ho.2.1,ho.2.2⟩
def Fs(h:eX xs 0 j=some ys)(k:RG E ops aK rest (db r U l cap ys::O) G):RG E ops aK rest (db r U l cap xs::O) G:=fun a w S st=>k a w S (st.cut h)
end

variable{x0 x1 x2 x3 x4 x5 x6:OE}
section
variable{e:Exit}
def uP{O:List OE}(h:fe base B w S (x0::x1::x2::x3::x4::x5::O)):fe base B w S (x5::x0::x1::x2::x3::x4::O):=
 (wx h uQ (fun f hf=>by simp only [kj]at hf ⊢;rcases hf with h|h|h|h|h|h<;>simp [h])).swap
def lH(h:RG E ops aK rest (x5::x0::x1::x2::x3::x4::O) G):RG E ops aK rest (x0::x1::x2::x3::x4::x5::O) G:=fun a w S st=>h a w S (st.own_map uP)
def dp(h:AT E aK e (x5::x0::x1::x2::x3::x4::O) G):AT E aK e (x0::x1::x2::x3::x4::x5::O) G:=fun a w S st=>h a w S (st.own_map uP)
def zm(h:LG E aK c (x5::x0::x1::x2::x3::x4::O) G):LG E aK c (x0::x1::x2::x3::x4::x5::O) G:=fun a w S st=>h a w S (st.own_map uP)
def uO{O:List OE}(h:fe base B w S (x0::x1::x2::x3::x4::x5::x6::O)):fe base B w S (x6::x0::x1::x2::x3::x4::x5::O):=
 (wx h uP (fun f hf=>by simp only [kj]at hf ⊢;rcases hf with h|h|h|h|h|h|h<;>simp [h])).swap
def rt(h:RG E ops aK rest (x6::x0::x1::x2::x3::x4::x5::O) G):RG E ops aK rest (x0::x1::x2::x3::x4::x5::x6::O) G:=fun a w S st=>h a w S (st.own_map uO)
def jB(h:AT E aK e (x6::x0::x1::x2::x3::x4::x5::O) G):AT E aK e (x0::x1::x2::x3::x4::x5::x6::O) G:=fun a w S st=>h a w S (st.own_map uO)
def uf(h:LG E aK c (x6::x0::x1::x2::x3::x4::x5::O) G):LG E aK c (x0::x1::x2::x3::x4::x5::x6::O) G:=fun a w S st=>h a w S (st.own_map uO)
def Fx{x7:OE}{O:List OE}(h:fe base B w S (x0::x1::x2::x3::x4::x5::x6::x7::O)):fe base B w S (x7::x0::x1::x2::x3::x4::x5::x6::O):=
 (wx h uO (fun f hf=>by simp only [kj]at hf ⊢;rcases hf with h|h|h|h|h|h|h|h<;>simp [h])).swap
def zg{x7:OE}(h:RG E ops aK rest (x7::x0::x1::x2::x3::x4::x5::x6::O) G):RG E ops aK rest (x0::x1::x2::x3::x4::x5::x6::x7::O) G:=fun a w S st=>h a w S (st.own_map Fx)
end

def u9(h:xs.set i y=zs):zs.length=xs.length:=by rw [<-h,Dd]
section
def rs(hl:m=n)(ac:Nat)(hs:cC G ac=some (M (ay l cap n)))(k:RG E ops aK rest O ((ac,M (ay l cap m))::G)):RG E ops aK rest O G:=by
 subst hl
 exact fun a w S st=>k a w S (st.cons (st.facts.at_ ac _ hs))
end

def fq{o1 o2:Nat}{g1:α->β}{g2:β->γ}(X:md r o1 q g1)(K:md q o2 ac g2)(H:Nat.ble (o2+ac.sz) q.sz=true:=by rfl):md r (o1+o2) ac (fun x=>g2 (g1 x)):=fun S cs x h=>by
 have h3:=K S _ _ (X S cs x h)
 have hb' :=sn H
 rwa [zC,AI,uV,xK (by omega)]at h3
def t8{o1 o2:Nat}{g1:α->β}{u1:α->β->α}{u2:β->γ->β}(X:md r o1 q g1)(k1:gg r o1 q u1)(k2:gg q o2 ac u2)(H:Nat.ble (o2+ac.sz) q.sz=true:=by rfl)(hc:Nat.ble (o1+q.sz) r.sz=true:=by rfl):
  gg r (o1+o2) ac (fun x y=>u1 x (u2 (g1 x) y)):=fun S cs x ds y h hy=>by
 have hb' :=sn H
 have hc' :=sn hc
 have hl:=r.len h
 have h3:=k1 S cs x _ _ h (k2 S _ _ ds y (X S cs x h) hy)
 have e:cs.take (o1+o2)++ds++cs.drop (o1+o2+ac.sz)=cs.take o1++(((cs.drop o1).take q.sz).take o2++ds++((cs.drop o1).take q.sz).drop (o2+ac.sz))++cs.drop (o1+q.sz):=by
  rw [AI,xK (by omega),zC,uV,List.take_add,show o1+(o2+ac.sz)=o1+o2+ac.sz from by omega]
  simp only [pe]
  congr 3
  have e2:cs.drop (o1+q.sz)=(cs.drop (o1+o2+ac.sz)).drop (q.sz-(o2+ac.sz)):=by rw [uV];congr 1;omega
  rw [e2,ui]
 rw [e];exact h3

def bK(P:Program)(f:FuncId)(ts:List Ty)(O1:List OE){ι:Type}(t:ι->Ty)(O2:ι->List OE):Prop:=
 ∀w S vs,nm w S->xH S ts vs->fe 0 uX w S O1->Calls P f vs.toArray w fun en w' => ∃i v S',en= .returned v/\(t i).p S' v/\la (fun k=> ∃f∈O1,f.fp k) w S w' S' /\nm w' S' /\fe 0 uX w' S' (O2 i)/\ ∀k,(∃f∈O2 i,f.fp k)->(∃f∈O1,f.fp k)\/w.heap.size<=k
def Mq(E:En)(O1:List OE){ι:Type}(t:ι->Ty)(O2:ι->List OE):Ending->World->Prop:=fun en w' =>
 ∃i v S',en= .returned v/\(t i).p S' v/\la E.B E.w0 E.S0 w' S' /\nm w' S' /\fe 0 uX w' S' (O2 i)/\ ∀k,(∃f∈O2 i,f.fp k)->(∃f∈O1,f.fp k)\/E.w0.heap.size<=k
def Ha(O1:List OE):Nat->Prop:=fun k=> ∃f∈O1,f.fp k
def bK.of{t:ι->Ty}(hf:P.funcs[f]? =some fn)(H:fn.body=some c)(hN:fn.ntmps=N)(hn:Nat.ble ts.length N=true)(h: ∀w0 S0,CG ⟨P,⟨N,[]⟩,Ha O1,w0,S0,none⟩ (bodyPost P fn (Mq ⟨P,⟨N,[]⟩,Ha O1,w0,S0,none⟩ O1 t O2)) c O1 (zQ 0 ts)):bK P f ts O1 t O2:=by
 subst hN
 intro w S vs hs hv ho
 exact xi.1 (callsIn_of_wp (F:=fw none) (n:=0) hf H trivial (h w S _ w S ⟨jS _ _ _,hs,zi ho fun f hf k hk=> .inr ⟨f,hf,hk⟩,Ax hv _ (sn hn)⟩))
def BL{t:ι->Ty}{v:Value}(st:St E O G a w S)(hB:E.B=Ha O1)(i:ι)(hO:O=O2 i)(hv:(t i).p S v):Mq E O1 t O2 (.returned v) w:=by
 subst hO
 refine⟨i,v,S,rfl,hv,st.ext,st.sat,st.own.weak,fun k ⟨f,hf,hk⟩=>?_⟩
 rcases(fe.mem st.own f hf).2 k hk with h|h
 ·exact .inr h
 ·rw [hB]at h;exact .inl h
section
variable{t:ι->Ty}
def cj{k:Nat}{u:Ty}(hr:fn.results= #[.tmp k])(i:ι)(hO:O=O2 i)(hk:cC G k=some u)(hu: ∀S v,u.p S v->(t i).p S v):
  AT ⟨P,⟨N,[]⟩,Ha O1,w0,S0,none⟩ (bodyPost P fn (Mq ⟨P,⟨N,[]⟩,Ha O1,w0,S0,none⟩ O1 t O2)) .ret O G:=fun _ _ S st=>
 ⟨st.facts.defers,_,tu P fn k hr _ _,BL st rfl i hO (hu S _ (st.facts.at_ k u hk))⟩
def rZ(hr:fn.results= #[])(i:ι)(hO:O=O2 i)(D:t i=tT []):
  AT ⟨P,⟨N,[]⟩,Ha O1,w0,S0,none⟩ (bodyPost P fn (Mq ⟨P,⟨N,[]⟩,Ha O1,w0,S0,none⟩ O1 t O2)) .ret O G:=fun _ _ S st=>
 ⟨st.facts.defers,_,wa P fn hr _ _,BL st rfl i hO (by rw [D];exact⟨[],rfl,trivial⟩)⟩
def fE(hr:fn.results= #[])(i:ι)(hO:O=O2 i)(D:t i=tT []):
  AT ⟨P,⟨N,[]⟩,Ha O1,w0,S0,none⟩ (bodyPost P fn (Mq ⟨P,⟨N,[]⟩,Ha O1,w0,S0,none⟩ O1 t O2)) .normal O G:=fun _ _ S st=>
 ⟨st.facts.defers,_,wa P fn hr _ _,BL st rfl i hO (by rw [D];exact⟨[],rfl,trivial⟩)⟩
end
def Fw: ∀{O1 O2:List OE},fe base B w S O1->fe base B w S O2->(∀e∈O1,∀f∈O2,e.apart f)->fe base B w S (O1++O2)
 |[],_,_,h,_=>h
 |e::O1,O2,⟨X,K,h3⟩,h,ha=>⟨X,fun f hf=>(uW.1 hf).elim (K f) (ha e (qa ..) f),Fw h3 h fun g Y f hf=>ha g (ry _ Y) f hf⟩
variable{ats:Array TypeId}
section
variable{ty:TypeId}
def St.turn{Or O2:List OE}(st:St E (O1++Or) G a w S)(V:la (fun k=> ∃f∈O1,f.fp k) w S w' S')(hs:nm w' S')(ho:fe 0 uX w' S' O2)(hn: ∀k,(∃f∈O2,f.fp k)->(∃f∈O1,f.fp k)\/w.heap.size<=k):St E (O2++Or) G a w' S' :=by
 obtain⟨X,K,h3⟩:=ru st.own
 have hbl:=st.base_le
 refine⟨st.ext.step V (fun b ⟨f,hf,H⟩=>(fe.mem X f hf).2 b H),hs,Fw (zi ho fun f hf k hk=>?_) (K.ext V fun f hf b H ⟨g,Y,hgb⟩=>h3 g Y f hf b hgb H) (fun e he f hf b heb hfb=>?_),st.facts.mono V.keep⟩
 ·rcases hn k ⟨f,hf,hk⟩with⟨g,Y,hgk⟩|h
  ·exact(fe.mem X g Y).2 k hgk
  ·exact .inl (xR hbl h)
 ·rcases hn b ⟨e,he,heb⟩with⟨g,Y,hgb⟩|h
  ·exact h3 g Y f hf b hgb hfb
  ·have:=f.here (fe.mem K f hf).1 b hfb
   omega
def Fu{xs:List Operand}(O1 Or:List OE){t:ι->Ty}(hO:O=O1++Or)(hc:ah E.P f=true)(hs:bK E.P f ts O1 t O2)(V:lv E.N G xs ts)(hd:Nat.blt aR E.N.n=true)(k: ∀i,RG E ops aK rest (O2 i++Or) ((aR,t i)::G)):
  RG E ops aK (⟨some aR,.call ⟨.value (.func f),xs.toArray,ats⟩,ty,pos,after,none⟩::rest) O G:= .of rfl fun a w S st=>by
 subst hO
 have hr:(execOp a.eval ⟨some aR,.call ⟨.value (.func f),xs.toArray,ats⟩,ty,pos,after,none⟩).run E.P w= .ok (.enter f (xs.map a.eval).toArray) w:=by
  simp [execOp,resolve,Act.eval,Deferred.ofValue,invoke,jf hc]
 refine⟨fun c h=>(by cases h),?_⟩
 rw [hr]
 refine(hs w S _ st.sat (V.tys st.facts) (ru st.own).1.weak).mono fun en w' ⟨i,v,S',he,hv,X,K,h3,h4⟩=>⟨_,he,?_⟩;exact k i _ _ S' ((st.turn X K h3 h4).put hd hv)
end

structure OI where
 h:Nat->Option Nat×Nat:=fun _=>(none,0)
 os:List (Option Nat×Nat):=[]
 fp:Nat->Prop:=uX
 v:Value:=undef
 ng:Nat->(Option Nat×Nat)×(Nat->Option Nat×Nat):=fun _=>((none,0),fun _=>(none,0))
def ml:OI:={}
def oi(l:Option Nat)(c:Nat):OI:={h:=fun _=>(l,c)}
def EffOK(E:En)(O:List OE)(need:mV)(o:Oper)(post:OI->List OE)(t:OI->Ty):Prop:=
 ∀a w S,nm w S->fe E.base E.B w S O->cE E.N S a need->E.base<=w.heap.size->
  J0 E.P o a w (fun a' w' => ∃v S' x,a' =a.put o.dst v/\la (Ha O) w S w' S' /\nm w' S' /\fe E.base E.B w' S' (post x)/\(t x).p S' v)
variable{post:OI->List OE}{t' :TypeId}
section
variable{ty:TypeId}
def Fe{y:Operand}{u:OI->Ty}(ti:TI E.P T sz bytes agg z)(hsz:r.sz=sz)(hz:Nat.beq z.length sz=true)(h0:Nat.blt 0 sz=true)(h128:Nat.ble bytes 2048=true)(D:E.P.underlying t=some (.slice T))(V:aY E.N G x (M (ay l cap n)))(hy: ∀a w S,nm w S->cE E.N S a G-> ∃news,Src E.P r.sz t' (a.eval y) ys.length news w/\sh r S news ys)(happ:app xs ys=some zs)(hu: ∀l' cap' w0 S,(nd mm r T l' cap' zs).p w0 S->(u (oi l' cap')).p S (ay l' cap' zs.length))(hn:n=xs.length):
  EffOK E (nd mm r T l cap xs::O) G ⟨some aR,.call ⟨.builtin .append,#[x,y],#[t,t']⟩,ty,pos,after,g⟩ (fun i=>nd mm r T (i.h 0).1 (i.h 0).2 zs::O) u:=fun a w S hs ho hf H=>by
 subst hn
 have X:a.eval x=ay l cap xs.length:=V S a hf
 obtain⟨news,K,h3⟩:=hy a w S hs hf
 obtain⟨l',cap',w',S',hr,hext,hsat,hh,hnew⟩:=ya (ty:=ty) ti hsz hz h0 h128 D hs ho.1 H K h3 happ
 have hrun:(execOp a.eval ⟨some aR,.call ⟨.builtin .append,#[x,y],#[t,t']⟩,ty,pos,after,g⟩).run E.P w= .ok (.value (ay l' cap' zs.length)) w' :=by
  simp [execOp,resolve,invoke,builtin,X,hr]
 refine⟨fun c h=>(by cases h),?_⟩
 rw [hrun]
 refine⟨_,S',oi l' cap',rfl,hext.more fun b H=>⟨_,qa ..,H⟩,hsat,⟨hh,fun f hf b H hfb=>?_,ho.2.2.ext hext fun f hf b H hbl=>ho.2.1 f hf b hbl H⟩,hu l' cap' w' S' hh.1⟩
 rcases hnew b H with h|h
 ·exact ho.2.1 f hf b h hfb
 ·have:=f.here (fe.mem ho.2.2 f hf).1 b hfb
  omega
def rr{y:Operand}(ti:TI E.P T sz bytes agg z)(hsz:r.sz=sz)(hz:Nat.beq z.length sz=true)(h0:Nat.blt 0 sz=true)(h128:Nat.ble bytes 2048=true)(D:E.P.underlying t=some (.slice T))(ht' :t' =t)(V:aY E.N G x (M (ay l cap n)))(hy:aY E.N G y (tD (f6 r) ys))(happ:app xs ys=some zs)(hn:n=xs.length:=by rfl):
  EffOK E (db r T l cap xs::O) G ⟨some aR,.call ⟨.builtin .append,#[x,y],#[t,t']⟩,ty,pos,after,g⟩ (fun i=>db r T (i.h 0).1 (i.h 0).2 zs::O) (fun i=>M (ay (i.h 0).1 (i.h 0).2 zs.length)):=by
 subst ht'
 exact Fe ti hsz hz h0 h128 D V (fun a w S hs hf=>u6 D hs (hy S a hf)) happ (fun _ _ _ _ _=>rfl) hn
def KD{y:Operand}(ti:TI E.P T sz bytes agg z)(hsz:r.sz=sz)(hz:Nat.beq z.length sz=true)(h0:Nat.blt 0 sz=true)(h128:Nat.ble bytes 2048=true)(D:E.P.underlying t=some (.slice T))(ht' :t' =t)(V:aY E.N G x (tO r l cap xs))(hy:aY E.N G y (tD (f6 r) ys))(happ:app xs ys=some zs):
  EffOK E (tip r T l cap xs::O) G ⟨some aR,.call ⟨.builtin .append,#[x,y],#[t,t']⟩,ty,pos,after,g⟩ (fun i=>tip r T (i.h 0).1 (i.h 0).2 zs::O) (fun i=>tO r (i.h 0).1 (i.h 0).2 zs):=by
 subst ht'
 exact Fe ti hsz hz h0 h128 D (xV V) (fun a w S hs hf=>u6 D hs (hy S a hf)) happ (fun _ _ _ _ h=>⟨rfl,nr h⟩) rfl
def Pv{xs:List Operand}{u:OI->Ty}(hc:ah E.P f=true)(hs:gm E.P f ts mm r T ys)(V:lv E.N G xs ts)(hu: ∀l cap w0 S,(nd mm r T l cap ys).p w0 S->(u (oi l cap)).p S (ay l cap ys.length)):
  EffOK E O G ⟨some aR,.call ⟨.value (.func f),xs.toArray,ats⟩,ty,pos,after,g⟩ (fun i=>nd mm r T (i.h 0).1 (i.h 0).2 ys::O) u:=fun a w S hsat ho hf H=>by
 have hr:(execOp a.eval ⟨some aR,.call ⟨.value (.func f),xs.toArray,ats⟩,ty,pos,after,g⟩).run E.P w= .ok (.enter f (xs.map a.eval).toArray) w:=by
  simp [execOp,resolve,Act.eval,Deferred.ofValue,invoke,jf hc]
 refine⟨fun c h=>(by cases h),?_⟩
 rw [hr]
 exact(hs w S _ hsat (V.tys hf)).mono fun e w' ⟨l,cap,S',he,X,K,h3⟩=>⟨_,he,_,S',oi l cap,rfl,X.more fun _ H=>H.elim,K,s3 ho X h3.1 (fun b H=>(h3.2 b H).resolve_right id) H,hu l cap w' S' h3.1⟩
def gm.tip(h:gm P f ts mm r T ys):gm P f ts true r T ys:=by
 cases mm with
 |true=>exact h
 |false=>
  intro w S vs hs hv
  refine(h w S vs hs hv).mono fun e w' ⟨l,cap,S',he,X,K,h3⟩=>?_
  have st:St ⟨default,⟨0,[]⟩,uX,w,S,none⟩ [db r T l cap ys] [] ⟨#[],[]⟩ w' S' :=⟨X,K,⟨h3,fun _ hf=>(by cases hf),trivial⟩,⟨rfl,rfl,fun _ _ h=>(by simp [cC]at h)⟩⟩
  obtain⟨S'',h4⟩:=st.freeze
  exact⟨l,cap,S'',he,h4.ext,h4.sat,h4.own.1⟩
def wv{xs:List Operand}(hc:ah E.P f=true)(hs:gm E.P f ts mm r T ys)(V:lv E.N G xs ts):
  EffOK E O G ⟨some aR,.call ⟨.value (.func f),xs.toArray,ats⟩,ty,pos,after,g⟩ (fun i=>Go.Proofs.YtdohlidddcgfjaaGreat.tip r T (i.h 0).1 (i.h 0).2 ys::O) (fun i=>tO r (i.h 0).1 (i.h 0).2 ys):=Pv hc hs.tip V (fun _ _ _ _ h=>⟨rfl,nr h⟩)
def fe.turn{Or O2:List OE}(h:fe base B w S (O1++Or))(hbl:base<=w.heap.size)(V:la (Ha O1) w S w' S')(ho:fe 0 uX w' S' O2)(hn: ∀k,(∃f∈O2,f.fp k)->(∃f∈O1,f.fp k)\/w.heap.size<=k):fe base B w' S' (O2++Or):=by
 obtain⟨X,K,h3⟩:=ru h
 refine Fw (zi ho fun f hf k hk=>?_) (K.ext V fun f hf b H ⟨g,Y,hgb⟩=>h3 g Y f hf b hgb H) (fun e he f hf b heb hfb=>?_)
 ·rcases hn k ⟨f,hf,hk⟩with⟨g,Y,hgk⟩|h
  ·exact(fe.mem X g Y).2 k hgk
  ·exact .inl (xR hbl h)
 ·rcases hn b ⟨e,he,heb⟩with⟨g,Y,hgb⟩|h
  ·exact h3 g Y f hf b hgb hfb
  ·have:=f.here (fe.mem K f hf).1 b hfb
   omega
def aE{xs:List Operand}(O1 Or:List OE){t:OI->Ty}{O2:OI->List OE}(hO:O=O1++Or)(hc:ah E.P f=true)(hs:bK E.P f ts O1 t O2)(V:lv E.N G xs ts)(hpost: ∀i,O2 i++Or=post i):
  EffOK E O G ⟨some aR,.call ⟨.value (.func f),xs.toArray,ats⟩,ty,pos,after,g⟩ post t:=fun a w S hsat ho hf H=>by
 subst hO
 obtain rfl:(fun i=>O2 i++Or)=post:=funext hpost
 have hr:(execOp a.eval ⟨some aR,.call ⟨.value (.func f),xs.toArray,ats⟩,ty,pos,after,g⟩).run E.P w= .ok (.enter f (xs.map a.eval).toArray) w:=by
  simp [execOp,resolve,Act.eval,Deferred.ofValue,invoke,jf hc]
 refine⟨fun c h=>(by cases h),?_⟩
 rw [hr]
 exact(hs w S _ hsat (V.tys hf) (ru ho).1.weak).mono fun en w' ⟨i,v,S',he,hv,X,K,h3,h4⟩=>⟨_,he,v,S',i,rfl,X.more fun b ⟨f,hf,H⟩=>⟨f,DO _ hf,H⟩,K,fe.turn ho H X h3 h4,hv⟩
def br{op:Op}{t:OI->Ty}(h:EffOK E O G ⟨some aR,op,ty,pos,after,none⟩ post t)(hd:Nat.blt aR E.N.n=true)(k: ∀x:OI,RG E ops aK rest (post x) ((aR,t x)::G)):RG E ops aK (⟨some aR,op,ty,pos,after,none⟩::rest) O G:= .of rfl fun a w S st=>
 oO (fun a' w' ⟨v,S',x,ha,V,hs,ho,hv⟩=>by
  subst ha
  exact k x _ _ S' ⟨st.ext.step V fun b ⟨f,hf,H⟩=>(fe.mem st.own f hf).2 b H,hs,ho,(st.facts.mono V.keep).put hd hv⟩) (h a w S st.sat st.own st.facts st.base_le)
end

def Ot(σ:Nat->OI)(k:Nat)(x:OI):Nat->OI:=fun j=>bif Nat.beq j k then x else σ j
def HF(σ:Nat->OI){k j:Nat}(x:OI)(h:j≠k):Ot σ k x j=σ j:=by
 have:Nat.beq j k=false:=by
  cases H:Nat.beq j k with
  |false=>rfl
  |true=>exact absurd (qy H) h
 simp [Ot,this]
structure NE where
 slot:Nat
 ty:(Nat->OI)->Ty
 src:Option Nat
def abQ(G:mV)(ts:List (OI->Ty))(n:NE):Prop:=
 match n.src with
 |some j=> ∀σ,(ts[j]?).map (fun f=>f (σ j))=some (n.ty σ)
 |none=> ∀σ,cC G n.slot=some (n.ty σ)
def N8(G:mV)(ts:List (OI->Ty)):List NE->Prop
 |[]=>True
 |n::l=>abQ G ts n/\N8 G ts l
def N8.mem{ts:List (OI->Ty)}: ∀{l:List NE},N8 G ts l-> ∀n∈l,abQ G ts n
 |_::_,⟨h,_⟩,_,.head _=>h
 |_::_,⟨_,h⟩,_,.tail _ hm=>N8.mem h _ hm
def ne(E:En)(ops:Array Oper)(O:List OE)(need:mV)(o:Oper)(post:OI->List OE)(t:OI->Ty):Prop:=
 ∀a w S,nm w S->fe E.base E.B w S O->cE E.N S a need->E.base<=w.heap.size->
  if Region.wanted o (yielded ops a.tmps)then J0 E.P o a w (fun a' w' => ∃v S' x,a' =a.put o.dst v/\la (Ha O) w S w' S' /\nm w' S' /\fe E.base E.B w' S' (post x)/\(t x).p S' v)
  else∃x,fe E.base E.B w S (post x)/\(t x).p S undef
def cP{need:mV}{t:OI->Ty}(Y:o.guard=none)(h:EffOK E O need o post t):ne E ops O need o post t:=fun a w S hs ho hf H=>by
 have:Region.wanted o (yielded ops a.tmps)=true:=by unfold Region.wanted;rw [Y]
 rw [this,bJ rfl]
 exact h a w S hs ho hf H
def iE(es:List Bool)(i:Nat):Nat:=(es.take i).countP (· ==true)
def Mv(L:List Oper)(es:List Bool):Bool:=(List.range es.length).all fun i=>(List.range i).all fun j=> !((es[i]?).getD false&&(es[j]?).getD false)||pg L L.length i j
structure DJE(E:En)(G:mV)(l:List Oper)(ts:List (OI->Ty))(Om:Nat->(Nat->OI)->List OE)(es:List Bool)(done:Array Bool)(a:Act)(w:World)(S:SH)(σ:Nat->OI)(c:Nat):Prop where
 ext:la E.B E.w0 E.S0 w S
 sat:nm w S
 own:fe E.base E.B w S (Om c σ)
 size:a.tmps.size=E.N.n
 defers:a.defers=E.N.ds
 dsz:done.size=l.length
 down: ∀j o,l[j]? =some o->done.getD j false=true-> ∀e∈o.after,Region.binds .any e=true->done.getD e.on false=true
 old: ∀k t,cC G k=some t->(∀j o,l[j]? =some o->done.getD j false=true->o.dst≠some k)->t.p S (a.tmps.getD k undef)
 new: ∀j o aR f,l[j]? =some o->done.getD j false=true->o.dst=some aR->ts[j]? =some f->(f (σ j)).p S (a.tmps.getD aR undef)
 chain: ∀k,es[k]? =some true->(done.getD k false=true↔iE es k<c)
variable{es:List Bool}
def Fp: ∀{i j:Nat},i<j->es[i]? =some true->iE es i<iE es j:=by
 induction es with
 |nil=>intro i j _ h;simp at h
 |cons e es ih=>
  intro i j hij h
  cases j with
  |zero=>omega
  |succ j=>
   cases i with
   |zero=>simp at h;subst h;simp [iE]
   |succ i=>
    have:=ih (i:=i) (j:=j) (by omega) (by simpa using h)
    cases e<;>simp [iE]at this ⊢ <;>omega
def xl: ∀{c k:Nat},c<iE es k-> ∃i,i<k/\es[i]? =some true/\iE es i=c:=by
 induction es with
 |nil=>intro c k h;simp [iE]at h
 |cons e es ih=>
  intro c k h
  cases k with
  |zero=>simp [iE]at h
  |succ k=>
   cases e with
   |false=>
    obtain⟨i,X,K,h3⟩:=ih (c:=c) (k:=k) (by simpa [iE] using h)
    exact⟨i+1,by omega,by simpa using K,by simpa [iE] using h3⟩
   |true=>
    cases c with
    |zero=>exact⟨0,by omega,rfl,by simp [iE]⟩
    |succ c=>
     obtain⟨i,X,K,h3⟩:=ih (c:=c) (k:=k) (by simp [iE]at h ⊢;omega)
     exact⟨i+1,by omega,by simpa using K,by simp [iE]at h3 ⊢;omega⟩
section
variable{ts:List (OI->Ty)}{Om:Nat->(Nat->OI)->List OE}
end

def VI(n:Int):Option Unit:=if 0<=n then some ()else none
def Bs{n:Int}{u:Unit}(h:VI n=some u):0<=n:=by
 unfold VI at h
 split at h
 ·assumption
 ·cases h
section
variable{ty:TypeId}
def GW(D:E.P.underlying t=some (.slice e))(V:aY E.N G x (M (.slice none 0 0))):cI E O G ⟨dst,.call ⟨.builtin .len,#[x],#[t]⟩,ty,pos,after,g⟩ (tD (rI .i64) (0:Int)):=
 .of_pure fun a w S _ _ hf=>by
  have X:a.eval x= .slice none 0 0:=V S a hf
  refine⟨.int .i64 0,?_,eK.2 rfl⟩
  simp [execOp,resolve,invoke,builtin,Builtin.len_,j3 D,X,goInt]
def GX(D:E.P.underlying t=some (.slice e))(V:aY E.N G x (M (.slice none 0 0))):cI E O G ⟨dst,.call ⟨.builtin .cap,#[x],#[t]⟩,ty,pos,after,g⟩ (tD (rI .i64) (0:Int)):=
 .of_pure fun a w S _ _ hf=>by
  have X:a.eval x= .slice none 0 0:=V S a hf
  refine⟨.int .i64 0,?_,eK.2 rfl⟩
  simp [execOp,resolve,invoke,builtin,Builtin.cap_,j3 D,X,goInt]
def J1{hi:Operand}(D:E.P.underlying t=some (.slice T))(ti:TI E.P T sz bytes agg z)(V:aY E.N G x (M (.slice none 0 0)))(hhi:aY E.N G hi (tD (rI k) (0:Int))):
  cI E O G ⟨dst,.slice t x none (some hi) none,ty,pos,after,g⟩ (M (.slice none 0 0)):=
 .of_pure fun a w S _ _ hf=>by
  have X:a.eval x= .slice none 0 0:=V S a hf
  have h6:=eK.1 (hhi S a hf)
  refine⟨.slice none 0 0,?_,rfl⟩
  have H:=nv (P:=E.P) (w:=w) (k:=k) (n:=(0:Int)) (y:=0) (code:= .sliceAcap) (by omega) (by omega)
  simp [execOp,Instr.sliceAt,X,h6,Instr.slice,j3 D,Instr.sliceBounds,H,nv (k:=k) (n:=(0:Int)) (y:=0) (by omega) (by omega),ti.sizeOf]
end

def wG{α:Type}(n:Int)(z:α):Option (List α):=if 0<=n/\n<=68719476736 then some (List.replicate n.toNat z)else none
def CQ{n:Int}{z:α}(h:wG n z=some zs): ∃m:Nat,n=m/\m<=68719476736/\zs=List.replicate m z:=by
 unfold wG at h
 split at h
 ·rename_i hc;exact⟨n.toNat,by omega,by omega,by simpa using h.symm⟩
 ·cases h
def wg{α:Type}{r:Rp α}{x:α}{z:List Value}(V: ∀S,r.rc S z x)(S:SH): ∀n:Nat,sh r S (List.replicate n z).flatten (List.replicate n x)
 |0=>rfl
 |n+1=>⟨z,_,by rw [List.replicate_succ,List.flatten_cons],V S,wg V S n⟩
def Ex(z:List Value):(List.range z.length).map (fun i=>z[i%z.length]?.getD default)=z:=by
 apply List.ext_getElem?
 intro k
 rcases qb k z.length with h|h
 ·rw [List.getElem?_map,List.getElem?_range h]
  simp [Nat.mod_eq_of_lt h,h]
 ·rw [DP (by simpa using h),DP h]
def qd(z:List Value)(n:Nat):(Builtin.zeroCells z.toArray n).toList=(List.replicate n z).flatten:=by
 unfold Builtin.zeroCells
 simp
 induction n with
 |zero=>simp
 |succ n ih=>
  rw [List.replicate_succ,List.flatten_cons,<-ih,Nat.succ_mul,Nat.add_comm,List.range_add,List.map_append,Ex,List.map_map]
  congr 1
  apply Gi
  intro i _
  simp
def wo(z:List Value)(n sz:Nat)(h:z.length=sz):(madeCells z.toArray (n*sz)).toList=(List.replicate n z).flatten:=by
 subst h
 have:=qd z n
 unfold Builtin.zeroCells at this
 unfold madeCells
 simpa using this
section
variable{ty:TypeId}
def flat_len(h:z.length=sz)(n:Nat):(List.replicate n z).flatten.length=n*sz:=by
 simp [h]
def R9{x:α}{n:Int}{y y' :Operand}(ti:TI E.P T sz bytes agg z)(hsz:r.sz=sz)(hz:Nat.beq z.length sz=true)(h128:Nat.ble bytes 2048=true)(D:E.P.underlying t=some (.slice T))(V: ∀S,r.rc S z x)(hy:aY E.N G y (tD (rI k) n))(hy' :aY E.N G y' (tD (rI k') n))(h:wG n x=some zs):
  EffOK E O G ⟨some aR,.makeSlice t y y',ty,pos,after,g⟩ (fun i=>db r T (i.h 0).1 (i.h 0).2 zs::O) (fun i=>M (ay (i.h 0).1 (i.h 0).2 zs.length)):=fun a w S hs ho hf H=>by
 subst hsz
 obtain⟨i,zv,hi,X,K,h3,h4⟩:=ti.get
 obtain⟨m,rfl,hm,rfl⟩:=CQ h
 have hyv:=eK.1 (hy S a hf)
 have hyv' :=eK.1 (hy' S a hf)
 have hz2:z.length=r.sz:=qy hz
 have h128' :=sn h128
 have hbytes:(i.bytes:Int)*(m:Int)<=281474976710656:=by
  have:i.bytes*m<=2048*68719476736:=Nat.mul_le_mul (by omega) hm
  have h5:((i.bytes*m:Nat):Int)<=281474976710656:=by omega
  rwa [Int.natCast_mul]at h5
 have hr:=run_make (P:=E.P) w t T i zv D hi h3 k k' (m:Int) (m:Int) (by omega) (Int.le_refl _) hbytes (by omega)
 rw [xM,X,h4]at hr
 obtain⟨he,hs',hno⟩:=ki (w:=w) (.cells (madeCells z.toArray (m*r.sz)) T (0,0)) hs
 have hrun:(execOp a.eval ⟨some aR,.makeSlice t y y',ty,pos,after,g⟩).run E.P w= .ok (.value (.slice (some ⟨w.heap.size,0,none⟩) m m)) (w.alloc (.cells (madeCells z.toArray (m*r.sz)) T (0,0))):=by
  simp [execOp,hyv,hyv',hr]
 refine⟨fun c h=>(by cases h),?_⟩
 rw [hrun]
 have hfl:=flat_len hz2 m
 refine⟨_,S,oi (some w.heap.size) m,rfl,he.more fun _ H=>H.elim,hs',s3 ho he (e:=db r T (some w.heap.size) m (List.replicate m x)) ⟨(List.replicate m z).flatten,⟨_,xS w _,by simp,by simp only [maxLen];omega,by rw [size_madeCells],?_⟩,wg V S m,fun b H=>by rw [<-rE H];exact hno⟩ (fun b H=>AR (rE H)) H,?_⟩
 ·rw [wo z m r.sz hz2,DQ]
  exact uj (by omega)
 ·show _=ay _ _ _
  rw [DQ];rfl
def KC{x:α}{n:Int}{ac y:Operand}{kn:IntKind}(ti:TI E.P T sz bytes agg z)(hsz:r.sz=sz)(hz:Nat.beq z.length sz=true)(h0:Nat.blt 0 sz=true)(h128:Nat.ble bytes 2048=true)(D:E.P.underlying t=some (.slice T))(ht' :E.P.underlying t' =some (.int kn))(V: ∀S,r.rc S z x)(hs' :aY E.N G ac (M (.slice none 0 0)))(hy:aY E.N G y (tD (rI k) n))(hn:0<n)(h:wG n x=some zs):
  EffOK E O G ⟨some aR,.call ⟨.builtin .append,#[ac,y],#[t,t']⟩,ty,pos,after,g⟩ (fun i=>db r T (i.h 0).1 (i.h 0).2 zs::O) (fun i=>M (ay (i.h 0).1 (i.h 0).2 zs.length)):=fun a w S hs ho hf H=>by
 subst hsz
 obtain⟨i,zv,hi,X,K,h3,h4⟩:=ti.get
 obtain⟨m,rfl,hm,rfl⟩:=CQ h
 have hsv:a.eval ac= .slice none 0 0:=hs' S a hf
 have hyv:=eK.1 (hy S a hf)
 have hz2:z.length=r.sz:=qy hz
 have h128' :=sn h128
 have h0' :0<r.sz:=by simpa [vD] using h0
 have hbytes:m*i.bytes<=281474976710656:=by
  have:m*i.bytes<=68719476736*2048:=Nat.mul_le_mul hm (by omega)
  omega
 have hr:=Lib.run_append_nil_zeros (P:=E.P) w t t' ty T i zv k kn D ht' hi h3 m (by omega) (by omega) (by omega) hbytes
 have hge:=grownCap_ge w m 0 T
 have hle:=grownCap_le_maxLen w m 0 T (by simp only [maxLen];omega)
 generalize grownCap w m 0 T=cp at hr hge hle
 obtain⟨C,hC⟩: ∃C,Builtin.zeroCells zv.cells m++Builtin.zeroCells zv.cells (cp-m)=C:=⟨_,rfl⟩
 rw [hC]at hr
 obtain⟨he0,hs0⟩:=yP (w:=w) hs
 obtain⟨he,hs2,hno⟩:=ki (w:=w.drew) (.cells C T (0,0)) hs0
 have hx2:la uX w S (w.drew.alloc (.cells C T (0,0))) S:=he0.trans he
 have hrun:(execOp a.eval ⟨some aR,.call ⟨.builtin .append,#[ac,y],#[t,t']⟩,ty,pos,after,g⟩).run E.P w= .ok (.value (.slice (some ⟨w.heap.size,0,none⟩) m cp)) (w.drew.alloc (.cells C T (0,0))):=by
  simp [execOp,resolve,invoke,builtin,hsv,hyv,hr]
 refine⟨fun c h=>(by cases h),?_⟩
 rw [hrun]
 have hfl:=flat_len hz2 m
 have hC1:C.toList=(List.replicate m z).flatten++(List.replicate (cp-m) z).flatten:=by
  rw [<-hC,Array.toList_append,h4,qd,qd]
 refine⟨_,S,oi (some w.heap.size) cp,rfl,hx2.more fun _ H=>H.elim,hs2,s3 ho hx2 (e:=db r T (some w.heap.size) cp (List.replicate m x)) ⟨(List.replicate m z).flatten,⟨C,xS w.drew _,by simpa using hge,hle,?_,?_⟩,wg V S m,fun b H=>by rw [<-rE H];exact hno⟩ (fun b H=>AR (rE H)) H,?_⟩
 ·have:C.toList.length=cp*r.sz:=by
   rw [hC1,mq,hfl,flat_len hz2,<-xI];congr 1;omega
  simpa using this
 ·rw [hC1,DQ,<-hfl,List.take_left]
 ·show _=ay _ _ _
  rw [DQ];rfl

def PG{x:α}{y:Operand}(ti:TI E.P T sz bytes agg z)(hsz:r.sz=sz)(hz:Nat.beq z.length sz=true)(D:E.P.underlying t=some (.slice T))(V: ∀S,r.rc S z x)(hone:z.all (·.oneCell')=true)(hs:eX xs lo (xs.length:Int)=some ys)(hy:aY E.N G y (M (oZ sz l cap lo.toNat ys.length)))(hzs:xs.take lo.toNat++List.replicate ys.length x=zs)(k:RG E ops aK rest (db r T l cap zs::O) G):
  RG E ops aK (⟨none,.call ⟨.builtin .clear,#[y],#[t]⟩,ty,pos,after,none⟩::rest) (db r T l cap xs::O) G:= .of rfl fun a w S st=>by
 subst hsz
 subst hzs
 obtain⟨i,zv,hi,X,K,h3,h4⟩:=ti.get
 have hyv:a.eval y=oZ r.sz l cap lo.toNat ys.length:=hy S a st.facts
 have hz2:z.length=r.sz:=qy hz
 obtain⟨lo',m,rfl,hm,h5,h6,rfl⟩:=gY hs
 have hm' :m=xs.length:=by omega
 subst hm'
 rw [DF]at hyv k
 rw [xM]at hyv k
 by_cases hnil:xs.drop lo' =[]
 ·have hlo:xs.length<=lo' :=xO.1 hnil
  rw [hnil]at hyv k
  have e1:xs.take lo' ++List.replicate ([]:List α).length x=xs:=by simp [uj hlo]
  rw [e1]at k
  have hrun:(execOp a.eval ⟨none,.call ⟨.builtin .clear,#[y],#[t]⟩,ty,pos,after,none⟩).run E.P w= .ok (.value (.tuple #[])) w:=by
   cases l<;>simp [execOp,resolve,invoke,builtin,Builtin.clear_,j3 D,hyv,oZ]
  refine⟨fun c h=>(by cases h),?_⟩
  rw [hrun]
  exact k _ _ S st
 ·obtain⟨⟨cells,hraw,hrc,hno⟩,hbase⟩:=st.own.1
  have hlt:lo' <xs.length:=by
   rcases qb lo' xs.length with h|h
   ·exact h
   ·exact absurd (Hy h) hnil
  cases l with
  |none=>have:=hraw.1;omega
  |some b=>
   obtain⟨cur,g1,g2,g3,g4,g5⟩:=hraw
   have hno' :S b=none:=hno b rfl
   have hne: ¬(cap=lo'):=by omega
   have hld:(xs.drop lo').length=xs.length-lo' :=by simp
   have hfl:=flat_len hz2 (xs.length-lo')
   have hones: ∀u∈(List.replicate (xs.length-lo') z).flatten,u.oneCell' =true:=by
    intro u hu
    obtain⟨q,hq,hu⟩:=List.mem_flatten.1 hu
    rw [(List.mem_replicate.1 hq).2]at hu
    exact mo.1 hone u hu
   have hmul:xs.length*r.sz<=cur.size:=by rw [g4];exact AN _ g2
   have hfit:lo' *r.sz+(xs.length-lo')*r.sz=xs.length*r.sz:=by rw [<-xI];congr 1;omega
   have hst:=run_storeCells_at E.P b (lo' *r.sz) T (List.replicate (xs.length-lo') z).flatten 0 cur w g1 (by omega) hones
   simp only [CK]at hst
   have hrun:(execOp a.eval ⟨none,.call ⟨.builtin .clear,#[y],#[t]⟩,ty,pos,after,none⟩).run E.P w= .ok (.value (.tuple #[])) (w.setRow b (cur.toList.take (lo' *r.sz)++(List.replicate (xs.length-lo') z).flatten++cur.toList.drop (lo' *r.sz+(List.replicate (xs.length-lo') z).flatten.length)).toArray):=by
    have e1: ∃q,xs.length-lo' =q+1:=⟨xs.length-lo' -1,by omega⟩
    obtain⟨q,hq⟩:=e1
    have e2:a.eval y= .slice (some ⟨b,lo' *r.sz,none⟩) (q+1) (cap-lo'):=by rw [hyv,hld,hq];simp [oZ,hne]
    rw [hq]at hst ⊢
    simp [execOp,resolve,invoke,builtin,Builtin.clear_,j3 D,e2,zeroValue,typeInfo,hi,h3,h4,qd,hst]
   refine⟨fun c h=>(by cases h),?_⟩
   rw [hrun]
   have hset:=setRow_heap w b cur (cur.toList.take (lo' *r.sz)++(List.replicate (xs.length-lo') z).flatten++cur.toList.drop (lo' *r.sz+(List.replicate (xs.length-lo') z).flatten.length)).toArray T _ g1
   have hl2:(xs.take lo' ++List.replicate (xs.drop lo').length x).length=xs.length:=by simp;omega
   have hsp:sh r S (cells.take (lo' *r.sz)) (xs.take lo'):=by
    have e:xs=xs.take lo' ++xs.drop lo' :=(ui _ _).symm
    rw [e]at hrc
    have:=(ri hrc).1
    rwa [show(xs.take lo').length=lo' from by simp;omega]at this
   have hcl:((cur.toList.take (lo' *r.sz)++(List.replicate (xs.length-lo') z).flatten++cur.toList.drop (lo' *r.sz+(List.replicate (xs.length-lo') z).flatten.length)).toArray).toList.take ((xs.take lo' ++List.replicate (xs.drop lo').length x).length*r.sz)=cells.take (lo' *r.sz)++(List.replicate (xs.length-lo') z).flatten:=by
    rw [hl2,<-g5,AI,xK (AN _ (by omega))]
    have hlen1:(cur.toList.take (lo' *r.sz)++(List.replicate (xs.length-lo') z).flatten).length=xs.length*r.sz:=by
     rw [mq,hfl,DE,CN,xK (by omega)];exact hfit
    rw [<-hlen1,List.take_left]
   obtain⟨q1,q2,q3⟩:=oN (O:=O) st.sat (db r T (some b) cap xs) (db r T (some b) cap (xs.take lo' ++List.replicate (xs.drop lo').length x)) st.own (fun k=>⟨fun h=>(rE h).symm,fun h=>by rw [h];rfl⟩) (fun k=>⟨fun h=>(rE h).symm,fun h=>by rw [h];rfl⟩)
    (w' :=w.setRow b (cur.toList.take (lo' *r.sz)++(List.replicate (xs.length-lo') z).flatten++cur.toList.drop (lo' *r.sz+(List.replicate (xs.length-lo') z).flatten.length)).toArray) ⟨rfl,rfl,rfl,by simp [World.setRow],eJ _⟩ (fun k hk=>setRow_other w b k _ hk)
    ⟨cells.take (lo' *r.sz)++(List.replicate (xs.length-lo') z).flatten,⟨_,hset,by rw [hl2];exact g2,g3,by simp only [Gh,mq,DE,De,CN];omega,hcl⟩,by rw [hld];exact sD hsp (wg V S _),fun k hk=>by rw [<-rE hk];exact hno'⟩ hno'
   ·exact k _ _ S ⟨st.ext.step q1 (fun c hc=>hbase c (by rw [hc];rfl)),q2,q3,st.facts⟩
end

def o7{α:Type}(r:Rp α)(n:Nat):Rp (List α) where
 sz:=n*r.sz
 agg:=true
 rc:=fun S cs xs=>xs.length=n/\sh r S cs xs
 mono:=fun h ⟨X,K⟩=>⟨X,s9 h K⟩
 len:=fun⟨X,K⟩=>by rw [ll K,X]
 one:=fun⟨_,K⟩=>yZ K
 sc:=fun h=>by cases h
section
section
variable{ty:TypeId}
def F1{i:Int}(D:E.P.underlying t=some (.array n e))(ti:TI E.P e sz bytes agg z)(hsz:r.sz=sz)(V:aY E.N G x (ck (o7 r n) xs))(hi:aY E.N G ix (tD (rI k) i))(hy:gB xs i=some y):
  cI E O G ⟨dst,.indexAddr t x ix,ty,pos,after,g⟩ (ck r y):=
 .of_pure fun a w S _ _ hf=>by
  subst hsz
  obtain⟨b,off,c,T,fr,X,K,h3,h4⟩:=V S a hf
  have h5:a.eval ix= .int k i:=eK.1 (hi S a hf)
  obtain⟨h0,hy'⟩:=ow hy
  have hlt:i.toNat<xs.length:=(tp.1 hy').1
  have hc:0<=i/\i<(n:Int):=⟨h0,by omega⟩
  refine⟨.pointer (some ⟨b,off+i.toNat*r.sz,none⟩),?_,b,_,c,T,fr,rfl,K,?_⟩
  ·simp [execOp,X,h5,Instr.indexAt,asIntOf,j3 D,Instr.sureAddr,hc,ti.sizeOf,jR]
  ·have h6:=A9 h4 hy'
   rw [zC,AI,uV]at h6
   have hmul:i.toNat*r.sz+r.sz<=n*r.sz:=by rw [<-Nat.succ_mul];exact AN _ (by omega)
   have hmin:min r.sz ((o7 r n).sz-i.toNat*r.sz)=r.sz:=by
    show min r.sz (n*r.sz-i.toNat*r.sz)=r.sz
    omega
   rwa [hmin]at h6
def ke{i:Int}(D:E.P.underlying t=some (.array n e))(ti:TI E.P e sz bytes agg z)(hm:bx (o7 r n) T b xs∈O)(V:aY E.N G x (M (Z b 0)))(hi:aY E.N G ix (tD (rI k) i))(hy:gB xs i=some y):
  cI E O G ⟨dst,.indexAddr t x ix,ty,pos,after,g⟩ (M (Z b (i.toNat*sz))):=
 .of_pure fun a w S _ ho hf=>by
  have X:a.eval x=Z b 0:=V S a hf
  have h5:a.eval ix= .int k i:=eK.1 (hi S a hf)
  obtain⟨⟨_,c,_,h4,_⟩,_⟩:=ho.mem _ hm
  obtain⟨h0,hy'⟩:=ow hy
  have hlt:i.toNat<xs.length:=(tp.1 hy').1
  have hc:0<=i/\i<(n:Int):=⟨h0,by omega⟩
  refine⟨_,?_,rfl⟩
  simp [execOp,X,h5,Z,Instr.indexAt,asIntOf,j3 D,Instr.sureAddr,hc,ti.sizeOf,jR]
end
def TT{i:Int}(hy:gB xs i=some y){cs:List Value}(h:(o7 r n).rc S cs xs):r.rc S ((cs.drop (i.toNat*r.sz)).take r.sz) y:=A9 h.2 (ow hy).2
def Bh{i:Int}{p:Operand}{ty:TypeId}(ti:TI E.P U sz bytes agg z)(hsz:r.sz=sz)(hag:r.agg=agg)(hm:bx (o7 r n) T b xs∈O)(hy:gB xs i=some y)(hp:aY E.N G p (M (Z b (i.toNat*r.sz)))):cI E O G ⟨dst,.load U p,ty,pos,after,g⟩ (tD r y):=
 .of_pure fun a w S _ ho hf=>by
  have X:a.eval p=Z b (i.toNat*r.sz):=hp S a hf
  obtain⟨⟨_,cur,h5,h6⟩,_⟩:=ho.mem _ hm
  have h7:=TT hy h6
  refine⟨_,?_,_,rfl,h7⟩
  simp [execOp,X,Z,Instr.loadAt,Instr.sureAddr,ko ti h5 hsz hag h7]
def ze{v:α}{i:Int}{p:Operand}{ty:TypeId}(ti:TI E.P U sz bytes agg z)(hsz:r.sz=sz)(hy:gB xs i=some y)(hz:xs.set i.toNat v=zs)(hp:aY E.N G p (M (Z b (i.toNat*r.sz))))(hv:aY E.N G x (tD r v))(k:RG E ops aK rest (bx (o7 r n) T b zs::O) G):RG E ops aK (⟨none,.store U p x,ty,pos,after,none⟩::rest) (bx (o7 r n) T b xs::O) G:= .of rfl fun a w S st=>by
 subst hz
 have X:a.eval p=Z b (i.toNat*r.sz):=hp S a st.facts
 obtain⟨ds,K,h3⟩:=hv S a st.facts
 obtain⟨⟨hno,cur,h5,h6⟩,_⟩:=st.own.1
 obtain⟨h0,hy'⟩:=ow hy
 have hlt:i.toNat<xs.length:=(tp.1 hy').1
 have hl:=ll h6.2
 simp only [CN]at hl
 have hmul:i.toNat*r.sz+r.sz<=xs.length*r.sz:=by rw [<-Nat.succ_mul];exact AN _ hlt
 obtain⟨w',hr,e1,e2,e3,e4,e5,e6⟩:=kW ti hsz h3 h5 (off:=i.toNat*r.sz) (by omega)
 have hrun:(execOp a.eval ⟨none,.store U p x,ty,pos,after,none⟩).run E.P w= .ok .skip w' :=by
  simp [execOp,X,K,Instr.storeAt,Z,Instr.sureAddr,hr]
 refine⟨fun c h=>(by cases h),?_⟩
 rw [hrun]
 obtain⟨g1,g2,g3⟩:=oN (O:=O) st.sat (bx (o7 r n) T b xs) (bx (o7 r n) T b (xs.set i.toNat v)) st.own (fun _=>uk) (fun _=>uk) ⟨e1,e2,e3,e4.1,e4.2⟩ e6 ⟨hno,_,e5,by rw [Dd];exact h6.1,Ds h3 h6.2 hlt⟩ hno
 exact k _ _ S ⟨st.ext.step g1 (fun c hc=>st.own.1.2 c hc),g2,g3,st.facts⟩
end
def zL{α:Type}{r:Rp α}{c:Value}{x:α}(h: ∀S,r.rc S [c] x)(S:SH): ∀n,sh r S (List.replicate n c) (List.replicate n x)
 |0=>rfl
 |n+1=>⟨[c],_,rfl,h S,zL h S n⟩
def BS{c:Value}{x:α}(n:Nat)(h: ∀S,r.rc S [c] x): ∀S,(o7 r n).rc S (List.replicate n c) (List.replicate n x):=fun S=>⟨DQ,zL h S n⟩
def Xd(n:Nat):Option Unit:=if n<=68719476736 then some ()else none
def gt0(n:Int):Option Unit:=if 0<n then some ()else none
def Ru{n:Int}{u:Unit}(h:gt0 n=some u):0<n:=by
 unfold gt0 at h
 split at h
 ·assumption
 ·cases h
def SL{e:Exit}(mm:Bool)(r:Rp α)(T:TypeId)(h:AT E aK e (nd mm r T none 0 []::O) G):AT E aK e O G:=fun a w S st=>h a w S (st.fresh mm r T)
def Hl{x:α}(h:eX xs lo (xs.length:Int)=some ys)(hz:xs.take lo.toNat++List.replicate ys.length x=zs):zs.length=xs.length:=by
 obtain⟨l,m,rfl,hm,X,K,rfl⟩:=gY h
 have hm' :m=xs.length:=by omega
 subst hm'
 rw [<-hz]
 simp
 omega

def tC(n:FuncId)(cts:List Ty):Ty where
 p:=fun S v=> ∃cap:List Value,v= .func (.func n) #[] cap.toArray/\xH S cts cap
 mono:=fun h ⟨cap,e,k⟩=>⟨cap,e,xH.mono h k⟩
section
section
variable{ty:TypeId}
def wk{fid:FuncId}{caps:List Operand}{cts:List Ty}(hcap:lv E.N G caps cts):cI E O G ⟨dst,.makeFunc (.func fid) #[] caps.toArray,ty,pos,after,g⟩ (tC fid cts):=
 .of_pure fun a w S _ _ hf=>⟨.func (.func fid) #[] (caps.map a.eval).toArray,by simp [execOp,Instr.makeFunc],_,rfl,hcap.tys hf⟩
end
def ue{n:FuncId}{cts:List Ty}{ty:TypeId}{fo:Operand}{xs:List Operand}(O1 Or:List OE){t:OI->Ty}{O2:OI->List OE}(hO:O=O1++Or)(hc:ah E.P n=true)(hs:bK E.P n (ts++cts) O1 t O2)(hf:aY E.N G fo (tC n cts))(V:lv E.N G xs ts)(hpost: ∀i,O2 i++Or=post i):
  EffOK E O G ⟨some aR,.call ⟨.value fo,xs.toArray,ats⟩,ty,pos,after,g⟩ post t:=fun a w S hsat ho hF H=>by
 subst hO
 obtain rfl:(fun i=>O2 i++Or)=post:=funext hpost
 obtain⟨cap,e,hcap⟩:=hf S a hF
 have hr:(execOp a.eval ⟨some aR,.call ⟨.value fo,xs.toArray,ats⟩,ty,pos,after,g⟩).run E.P w= .ok (.enter n ((xs.map a.eval).toArray++cap.toArray)) w:=by
  simp [execOp,resolve,e,Deferred.ofValue,invoke,jf hc]
 refine⟨fun c h=>(by cases h),?_⟩
 rw [hr]
 have e2:(xs.map a.eval).toArray++cap.toArray=((xs.map a.eval)++cap).toArray:=by simp
 rw [e2]
 exact(hs w S _ hsat ((V.tys hF).append hcap) (ru ho).1.weak).mono fun en w' ⟨i,v,S',he,hv,X,K,h3,h4⟩=>⟨_,he,v,S',i,rfl,X.more fun b ⟨f,hf,H⟩=>⟨f,DO _ hf,H⟩,K,fe.turn ho H X h3 h4,hv⟩
end

def F6{α:Type}(xs:List α)(lo:Int)(n:Nat)(i:Int):Option α:=if 0<=i/\i<(n:Int)then gB xs (lo+i)else none
def y8{i:Int}(h:F6 xs lo n i=some y):0<=i/\i<(n:Int)/\gB xs (lo+i)=some y:=by
 unfold F6 at h
 split at h
 ·rename_i hc;exact⟨hc.1,hc.2,h⟩
 ·cases h
def Cc(h:eX xs lo hi=some ys):0<=lo:=by
 obtain⟨l,m,rfl,_,_,_,_⟩:=gY h
 omega
section
def rX(hm:nd mm r T l cap xs∈O)(hs:eX xs lo hi=some ys)(h:(l=none->ys.length=0)/\ys.length<=maxLen->RG E ops aK rest O G):RG E ops aK rest O G:=fun a w S st=>by
 refine h ?_ a w S st
 obtain⟨cells,X,_⟩:=(st.own.mem _ hm).1
 obtain⟨l',m,_,_,_,h8,rfl⟩:=gY hs
 have hlen:((xs.take m).drop l').length<=xs.length:=by simp;omega
 cases l with
 |none=>have:=X.1;exact⟨fun _=>by omega,by omega⟩
 |some b=>obtain⟨cur,_,g2,g3,_⟩:=X;exact⟨fun h=>(by cases h),by omega⟩
section
variable{ty:TypeId}
def Ng{lo:Nat}(D:E.P.underlying t=some (.slice e))(hv:l=none->n=0)(V:aY E.N G x (M (oZ sz l cap lo n))):
  cI E O G ⟨dst,.call ⟨.builtin .len,#[x],#[t]⟩,ty,pos,after,g⟩ (tD (rI .i64) (n:Int)):=
 .of_pure fun a w S _ ho hf=>by
  have X:a.eval x=oZ sz l cap lo n:=V S a hf
  obtain⟨ad,c,h3⟩: ∃ad c,oZ sz l cap lo n= .slice ad n c:=by
   cases l with
   |none=>rw [hv rfl];exact⟨none,0,rfl⟩
   |some b=>exact⟨_,_,rfl⟩
  refine⟨.int .i64 n,?_,eK.2 rfl⟩
  simp [execOp,resolve,invoke,builtin,Builtin.len_,j3 D,X,h3,goInt]
def vN{i:Int}(D:E.P.underlying t=some (.slice e))(ti:TI E.P e sz bytes agg z)(hsz:r.sz=sz)(hm:nd mm r U l cap xs∈O)(hl0:0<=lo)(V:aY E.N G x (M (oZ sz l cap lo.toNat n)))(hi' :aY E.N G ix (tD (rI k) i))(hy:F6 xs lo n i=some y):
  cI E O G ⟨dst,.indexAddr t x ix,ty,pos,after,g⟩ (M (Az l ((lo+i).toNat*sz+0))):=
 .of_pure fun a w S _ ho hf=>by
  subst hsz
  have X:a.eval x=oZ r.sz l cap lo.toNat n:=V S a hf
  have h3:a.eval ix= .int k i:=eK.1 (hi' S a hf)
  obtain⟨hi0,hin,hxi⟩:=y8 hy
  obtain⟨_,hx'⟩:=ow hxi
  obtain⟨b,cur,rfl,_,hle,_⟩:=yf (ho.mem _ hm).1 hx'
  have hlt2:(lo+i).toNat<xs.length:=(tp.1 hx').1
  have hne: ¬(cap=lo.toNat):=by omega
  refine⟨_,?_,rfl⟩
  have hc:0<=i/\i<(n:Int):=⟨hi0,hin⟩
  have e1:(lo+i).toNat=lo.toNat+i.toNat:=by omega
  simp [execOp,X,h3,oZ,hne,Instr.indexAt,asIntOf,j3 D,hc,ti.sizeOf,jR,Az,Z,e1,xI]
end
end

section
variable{ty:TypeId}{l:List Oper}
end

def og3 [Inhabited α]{c b:Bool}{x:Option α}{k:α->Option β}{aR:Option β}{r:β}(h:c=true->(if b=true then x.bind k else aR)=some r): ∃y,((c&&b)=true->x=some y/\k y=some r)/\(c=true->b=false->aR=some r):=by
 cases c with
 |false=>exact⟨default,fun e=>(by cases e),fun e=>(by cases e)⟩
 |true=>
  obtain⟨y,X,K⟩:=og (h rfl)
  exact⟨y,fun e=>X e,fun _ e=>K e⟩
def uY{κ β:Type} [DecidableEq κ]:List (κ×β)->κ->Option β
 |[],_=>none
 |p::m,k=>if p.1=k then some p.2 else uY m k
def hX{κ β:Type} [DecidableEq κ]:List (κ×β)->κ->β->List (κ×β)
 |[],k,v=>[(k,v)]
 |p::m,k,v=>if p.1=k then(k,v)::m else p::hX m k v
def KU{κ:Type}(P:Program)(kt:TypeId)(kv:κ->Value):Prop:= ∃aR,P.underlying kt=some aR/\(∀a,MapKept.IsKey aR (kv a))/\ ∀a b,kv a=kv b->a=b
def VC(k:IntKind)(n:Int):Value:= .int k n
def jL{kt:TypeId}(h:P.underlying kt=some (.int k)):KU P kt (VC k):=⟨_,h,fun _=>rfl,fun a b e=>by injection e⟩
structure MV(β:Type) where
 p:World->SH->β->Option Nat×Nat->Value->Prop
 here: ∀{w S y o v},p w S y o v-> ∀j,o.1=some j->j<w.heap.size
 kept: ∀{C w w' S S' y o v},p w S y o v->la C w S w' S' ->(∀j,o.1=some j-> ¬C j)->p w' S' y o v
def Nj{β:Type}(ty:β->Ty):MV β where
 p:=fun _ S y o v=>o.1=none/\(ty y).p S v
 here:=fun h j hj=>by rw [h.1]at hj;cases hj
 kept:=fun h k _=>⟨h.1,(ty _).mono k.keep h.2⟩
section
variable{κ:Type} [DecidableEq κ]{hx:MV β}{kv:κ->Value}{aR:TypeDesc}{k:κ}
def xF(hx:MV β)(kv:κ->Value)(w:World)(S:SH)(h:Option κ):List MapEntry->List (Option Nat×Nat)->List (κ×β)->Prop
 |[],[],[]=>True
 |e::es,o::os,q::m=>e.key=kv q.1/\(if h=some q.1 then o.1=none else hx.p w S q.2 o e.val)/\(∀o' ∈os,∀j,o.1=some j->o'.1≠some j)/\(∀p∈m,p.1≠q.1)/\xF hx kv w S h es os m
 |_,_,_=>False
def He{h:Option κ}: ∀{es:List MapEntry} {os:List (Option Nat×Nat)} {m:List (κ×β)},xF hx kv w S h es os m-> ∀o∈os,∀j,o.1=some j->j<w.heap.size
 |[],[],[],_,o,ho,_,_=>by cases ho
 |e::es,o::os,q::m,⟨_,K,_,_,h5⟩,o',ho,j,hj=>by
  rcases kj.1 ho with rfl|ho
  ·split at K
   ·rw [K]at hj;cases hj
   ·exact hx.here K j hj
  ·exact He h5 o' ho j hj
def BK{C:Nat->Prop}(k:la C w S w' S'){h:Option κ}: ∀{es:List MapEntry} {os:List (Option Nat×Nat)} {m:List (κ×β)},xF hx kv w S h es os m->(∀o∈os,∀j,o.1=some j-> ¬C j)->xF hx kv w' S' h es os m
 |[],[],[],_,_=>trivial
 |e::es,o::os,q::m,⟨X,K,h3,h4,h5⟩,hC=>⟨X,by
  split
  ·rename_i hh;rw [bJ hh]at K;exact K
  ·rename_i hh;rw [bk hh]at K;exact hx.kept K k (hC o (qa ..)),h3,h4,BK k h5 fun o' ho=>hC o' (ry _ ho)⟩
def C5{h:Option κ}: ∀{es:List MapEntry} {os:List (Option Nat×Nat)} {m:List (κ×β)},xF hx kv w S h es os m->(∀p∈m,h≠some p.1)->xF hx kv w S none es os m
 |[],[],[],_,_=>trivial
 |e::es,o::os,q::m,⟨X,K,h3,h4,h5⟩,hk=>⟨X,by
  rw [bk (hk q (qa ..))]at K
  rw [bk (by simp)];exact K,h3,h4,C5 h5 fun p hp=>hk p (ry _ hp)⟩
def tM(hd: ∀a,MapKept.IsKey aR (kv a))(hi: ∀a b,kv a=kv b->a=b)(a b:κ):Instr.sameNow aR (kv a) (kv b)=some (decide (a=b)):=by
 obtain⟨r,X,K⟩:=MapKept.sameNow_of_keys (hd a) (hd b)
 rw [X]
 by_cases h:a=b
 ·subst h;rw [K.2 rfl];simp
 ·rw [Dc h]
  cases r with
  |false=>rfl
  |true=>exact absurd (hi _ _ (K.1 rfl)) h
def xe(hd: ∀a,MapKept.IsKey aR (kv a))(hi: ∀a b,kv a=kv b->a=b): ∀{es:List MapEntry} {os:List (Option Nat×Nat)} {m:List (κ×β)} (i:Nat),xF hx kv w S none es os m->
  ∃os',(∀x∈os',x∈os\/x.1=none)/\xF hx kv w S (some k) es os' m/\
   ((uY m k=none/\Instr.findNow aR (kv k) es i=some none)\/ ∃(y:β) (o:Option Nat×Nat) (e:MapEntry) (j:Nat),uY m k=some y/\o∈os/\hx.p w S y o e.val/\Instr.findNow aR (kv k) es i=some (some (j,e.val))/\ ∀x∈os',∀q,o.1=some q->x.1≠some q)
 |[],[],[],i,_=>⟨[],fun x V=>(by cases V),trivial,.inl ⟨rfl,rfl⟩⟩
 |e::es,o::os,q::m,i,⟨X,K,h3,h4,h5⟩=>by
  rw [bk (by simp)]at K
  by_cases hk:q.1=k
  ·refine⟨(none,0)::os,fun x V=>?_,⟨X,by rw [bJ (by rw [hk])],fun _ _ _ hj=>(by cases hj),h4,?_⟩,.inr ⟨q.2,o,e,i,by unfold uY;rw [bJ hk],qa ..,K,?_,fun x V j hj=>?_⟩⟩
   ·rcases kj.1 V with rfl|V
    ·exact .inr rfl
    ·exact .inl (ry _ V)
   ·have: ∀{es:List MapEntry} {os:List (Option Nat×Nat)} {m:List (κ×β)},xF hx kv w S none es os m->(∀p∈m,p.1≠k)->xF hx kv w S (some k) es os m:=by
     intro es
     induction es with
     |nil=>intro os m h _;cases os<;>cases m<;>first|trivial|exact h.elim
     |cons e es ih=>
      intro os m h hm
      cases os with
      |nil=>cases m<;>exact h.elim
      |cons o os=>
       cases m with
       |nil=>exact h.elim
       |cons q m=>
        obtain⟨g1,g2,g3,g4,g5⟩:=h
        rw [bk (by simp)]at g2
        exact⟨g1,by rw [bk (fun e=>hm q (qa ..) (rE e).symm)];exact g2,g3,g4,ih g5 fun p hp=>hm p (ry _ hp)⟩
    exact this h5 (fun p hp=>by rw [<-hk];exact h4 p hp)
   ·unfold Instr.findNow
    rw [X,tM hd hi,hk,decide_eq_true rfl]
   ·rcases kj.1 V with rfl|V
    ·exact fun e=>by cases e
    ·exact h3 x V j hj
  ·obtain⟨os',g1,g2,g3⟩:=xe hd hi (i+1) h5
   refine⟨o::os',fun x V=>?_,⟨X,by rw [bk (fun e=>hk (rE e).symm)];exact K,fun o' ho' j hj=>?_,h4,g2⟩,?_⟩
   ·rcases kj.1 V with rfl|V
    ·exact .inl (qa ..)
    ·exact(g1 x V).imp (ry _) id
   ·rcases g1 o' ho' with h|h
    ·exact h3 o' h j hj
    ·rw [h];exact fun e=>by cases e
   ·have hf:Instr.findNow aR (kv k) (e::es) i=Instr.findNow aR (kv k) es (i+1):=by
     conv=>lhs;unfold Instr.findNow
     rw [X,tM hd hi,Dc (fun e=>hk e.symm)]
    have hm:uY (q::m) k=uY m k:=by conv=>lhs;unfold uY;rw [bk hk]
    rw [hf,hm]
    refine g3.imp id fun⟨y,o1,e1,j,f1,f2,f3,f4,f5⟩=>⟨y,o1,e1,j,f1,ry _ f2,f3,f4,fun x V q hq=>?_⟩
    rcases kj.1 V with rfl|V
    ·exact fun e=>h3 o1 f2 q e hq
    ·exact f5 x V q hq
def J9(x:α)(xs:List α)(j:Nat)(f:α->α):(x::xs).modify (j+1) f=x::xs.modify j f:=by simp [List.modify_succ_cons]
def Hf(hd: ∀a,MapKept.IsKey aR (kv a))(hi: ∀a b,kv a=kv b->a=b){y:β}{o:Option Nat×Nat}{v:Value}{born:Nat}(hv:hx.p w S y o v): ∀{es:List MapEntry} {os:List (Option Nat×Nat)} {m:List (κ×β)} (i:Nat),xF hx kv w S (some k) es os m->(∀o' ∈os,∀j,o.1=some j->o'.1≠some j)->
    ∃os',(∀x∈os',x∈os\/x=o)/\
      ((∃(j:Nat) (e:MapEntry),Instr.findNow aR (kv k) es i=some (some (i+j,e.val))/\es[j]? =some e/\e.key=kv k/\xF hx kv w S none (es.modify j fun e=>{e with key:=kv k,val:=v}) os' (hX m k y))\/
        (Instr.findNow aR (kv k) es i=some none/\xF hx kv w S none (es++[⟨kv k,v,born⟩]) os' (hX m k y)))
  |[],[],[],i,_,_=>⟨[o],fun x V=> .inr (zW.1 V),.inr ⟨rfl,⟨rfl,by rw [bk (by simp)];exact hv,fun _ h=>(by cases h),fun _ h=>(by cases h),trivial⟩⟩⟩
  |e::es,o1::os,q::m,i,⟨X,K,h3,h4,h5⟩,ha=>by
    by_cases hk:q.1=k
    · refine⟨o::os,fun x V=>?_,.inl ⟨0,e,?_,rfl,by rw [X,hk],?_⟩⟩
      · rcases kj.1 V with rfl|V
        · exact .inr rfl
        · exact .inl (ry _ V)
      · unfold Instr.findNow
        rw [X,tM hd hi,hk,decide_eq_true rfl]
        rfl
      · unfold hX
        rw [bJ hk,List.modify_zero_cons]
        exact⟨rfl,by rw [bk (by simp)];exact hv,fun o' ho' =>ha o' (ry _ ho'),fun p hp=>by rw [<-hk];exact h4 p hp,
          C5 h5 fun p hp e=>h4 p hp (by rw [hk];exact(rE e).symm)⟩
    · obtain⟨os',g1,g2⟩:=Hf hd hi (born:=born) hv (i+1) h5 fun o' ho' =>ha o' (ry _ ho')
      rw [bk (fun e=>hk (rE e).symm)]at K
      have hf:Instr.findNow aR (kv k) (e::es) i=Instr.findNow aR (kv k) es (i+1):=by
        conv=>lhs;unfold Instr.findNow
        rw [X,tM hd hi,Dc (fun e=>hk e.symm)]
      have hm:hX (q::m) k y=q::hX m k y:=by conv=>lhs;unfold hX;rw [bk hk]
      have hap: ∀o' ∈os',∀j,o1.1=some j->o'.1≠some j:=fun o' ho' j hj=>by
        rcases g1 o' ho' with h|rfl
        · exact h3 o' h j hj
        · exact fun e=>ha o1 (qa ..) j e hj
      have hne: ∀p∈hX m k y,p.1≠q.1:=by
        have: ∀m:List (κ×β),(∀p∈m,p.1≠q.1)-> ∀p∈hX m k y,p.1≠q.1:=by
          intro m
          induction m with
          |nil=>intro _ p hp;rw [zW.1 hp];exact fun e=>hk e.symm
          |cons p0 m ih=>
            intro hm p hp
            unfold hX at hp
            split at hp
            · rcases kj.1 hp with rfl|hp
              · exact fun e=>hk e.symm
              · exact hm p (ry _ hp)
            · rcases kj.1 hp with rfl|hp
              · exact hm _ (qa ..)
              · exact ih (fun p hp=>hm p (ry _ hp)) p hp
        exact this m h4
      rw [hf,hm]
      refine⟨o1::os',fun x V=>?_,g2.imp (fun⟨j,e',f1,f2,f3,f4⟩=>⟨j+1,e',by rw [f1];congr 3;omega,by simpa using f2,f3,?_⟩) fun⟨f1,f2⟩=>⟨f1,?_⟩⟩
      · rcases kj.1 V with rfl|V
        · exact .inl (qa ..)
        · exact(g1 x V).imp (ry _) id
      · rw [J9]
        exact⟨X,by rw [bk (by simp)];exact K,hap,hne,f4⟩
      · exact⟨X,by rw [bk (by simp)];exact K,hap,hne,f2⟩
def Hd{h:Option κ}: ∀{es:List MapEntry} {os:List (Option Nat×Nat)} {m:List (κ×β)},xF hx kv w S h es os m-> ∀x∈es,∃q∈m,x.key=kv q.1
 |[],[],[],_,x,V=>by cases V
 |e::es,o::os,q::m,⟨X,_,_,_,h5⟩,x,V=>by
  rcases kj.1 V with rfl|V
  ·exact⟨q,qa ..,X⟩
  ·obtain⟨q',g1,g2⟩:=Hd h5 x V
   exact⟨q',ry _ g1,g2⟩
def Pn(hd: ∀a,MapKept.IsKey aR (kv a)){h:Option κ}{es:List MapEntry}{os:List (Option Nat×Nat)}{m:List (κ×β)}(h4:xF hx kv w S h es os m)(g1:Instr.findNow aR (kv k) es i=some none){x:MapEntry}(V:x∈es):x.key≠kv k:=by
 rcases MapKept.findNow_spec (hd k) es i (fun y hy=>by obtain⟨q,_,e⟩:=Hd h4 y hy;rw [e];exact hd _)with⟨_,K⟩|⟨j,e,K,_⟩
 ·exact K x V
 ·rw [g1]at K;cases K
def Bm(hx:MV β)(kv:κ->Value)(b:Nat)(h:Option κ)(os:List (Option Nat×Nat))(m:List (κ×β)):OE where
 fp:=fun j=>j=b\/ ∃o∈os,o.1=some j
 p:=fun w S=>S b=none/\(∀o∈os,o.1≠some b)/\ ∃es clock,w.heap[b]? =some (.map es clock)/\xF hx kv w S h es.toList os m/\MapKept.Stamped es clock
 here:=by
  intro w S ⟨_,_,es,clock,h3,h4,_⟩ j hj
  rcases hj with rfl|⟨o,ho,hj⟩
  ·exact(Hz.1 h3).1
  ·exact He h4 o ho j hj
 kept:=by
  intro C w w' S S' ⟨X,K,es,clock,h3,h4,hst⟩ k hC
  have hlt:=(Hz.1 h3).1
  exact⟨by rw [k.old b hlt (hC b (.inl rfl))];exact X,K,es,clock,by rw [k.heap b hlt (hC b (.inl rfl))];exact h3,BK k h4 (fun o ho j hj=>hC j (.inr ⟨o,ho,hj⟩)),hst⟩
def vO(b:Nat):Value:= .map (some b)
end
section
variable{κ:Type} [DecidableEq κ]{hx:MV β}{kv:κ->Value}{os:List (Option Nat×Nat)}{m:List (κ×β)}{k:κ}{kt et:TypeId}{i v:Operand}{dst:Option Nat}{ty:TypeId}
def Od(N:Fr)(G:mV)(x:Operand)(u:Value):Prop:= ∀S a,cE N S a G->a.eval x=u
def uZ{N:Fr}{q:IntKind}{n:Int}(h:aY N G x (tD (rI q) n)):Od N G x (VC q n):=fun S a hf=>eK.1 (h S a hf)
def ZV(P:Program)(T:TypeId)(z:Value):Prop:=(P.info? T).bind (·.zero)=some z
def ZV.run{z:Value}(h:ZV P T z)(w:World):(zeroValue T).run P w= .ok z w:=by
 unfold ZV at h
 cases hi:P.info? T with
 |none=>rw [hi]at h;cases h
 |some i=>
  rw [hi]at h
  have h' :i.zero=some z:=h
  simp [zeroValue,typeInfo,hi,h']
def Fq(hx:MV β)(kv:κ->Value)(hd:Nat.blt aR E.N.n=true)(k: ∀b,RG E ops aK rest (Bm hx kv b none [] []::O) ((aR,M (vO b))::G)):
  RG E ops aK (⟨some aR,.makeMap t none,ty,pos,after,none⟩::rest) O G:= .of rfl fun a w S st=>by
 obtain⟨he,hs',hno⟩:=ki (w:=w) (.map #[] 0) st.sat
 have hrun:(execOp a.eval ⟨some aR,.makeMap t none,ty,pos,after,none⟩).run E.P w= .ok (.value (vO w.heap.size)) (w.alloc (.map #[] 0)):=by
  simp [execOp,Instr.makeMap,vO]
 refine⟨fun c h=>(by cases h),?_⟩
 rw [hrun]
 exact k w.heap.size _ _ S ⟨st.ext.step0 he,hs',s3 st.own he ⟨hno,fun _ h=>(by cases h),#[],0,xS w _,trivial,MapKept.stamped_empty 0⟩ (fun b H=>by
  rcases H with rfl|⟨_,h,_⟩
  ·exact eJ _
  ·cases h) st.base_le,st.facts.put hd rfl⟩
def sU{kk:Value}{es:Array MapEntry}{clock:Nat}{q:TypeDesc}{z:Value}{u:Option (Nat×Value)}(hm:P.underlying t=some (.map kt et))(hq:P.underlying kt=some q)(hk:MapKept.IsKey q kk)(H:w.heap[b]? =some (.map es clock))(hz:ZV P et z)(hf:Instr.findNow q kk es.toList 0=some u)(c:Bool):(Instr.lookup t (vO b) kk c).run P w= .ok (if c then .tuple #[(u.map (·.2)).getD z,.bool u.isSome]else(u.map (·.2)).getD z) w:=by
 cases u with
 |none=>simp [Instr.lookup,vO,j3 hm,ML H,MJ hq hk,MapKept.run_findKey hq hf,hz.run,Result.andThen]
 |some r=>simp [Instr.lookup,vO,j3 hm,ML H,MJ hq hk,MapKept.run_findKey hq hf,Result.andThen]
def J4{γ:β->Ty}{z:β}{zv:Value}(hm:E.P.underlying t=some (.map kt et))(hk:KU E.P kt kv)(hz:ZV E.P et zv)(hzt: ∀S,(γ z).p S zv)(hmem:Bm (Nj γ) kv b none os m∈O)(V:aY E.N G x (M (vO b)))(hi:Od E.N G i (kv k)):
  cI E O G ⟨dst,.lookup t x i true,ty,pos,after,g⟩ (tT [γ ((uY m k).getD z),tD rB (uY m k).isSome]):= .of_pure fun a w S hs ho hf=>by
 obtain⟨⟨_,_,es,clock,h3,h4,_⟩,_⟩:=fe.mem ho _ hmem
 obtain⟨q,hq,hd,hinj⟩:=hk
 have X:a.eval x=vO b:=V S a hf
 have K:a.eval i=kv k:=hi S a hf
 obtain⟨_,_,_,h5⟩:=xe hd hinj (k:=k) 0 h4
 rcases h5 with⟨g1,g2⟩|⟨y,o,e,j,g1,g2,g3,g4,g5⟩
 ·refine⟨.tuple #[zv,.bool false],by simp [execOp,X,K,sU hm hq (hd k) h3 hz g2],[zv,.bool false],rfl,by rw [g1];exact hzt S,jc.2 (by rw [g1];rfl),trivial⟩
 ·refine⟨.tuple #[e.val,.bool true],by simp [execOp,X,K,sU hm hq (hd k) h3 hz g4],[e.val,.bool true],rfl,by rw [g1];exact g3.2,jc.2 (by rw [g1];rfl),trivial⟩
def Cd{kk:Value}{es:Array MapEntry}{clock:Nat}{q:TypeDesc}{val:Value}(hm:P.underlying t=some (.map kt et))(hq:P.underlying kt=some q)(hk:MapKept.IsKey q kk)(H:w.heap[b]? =some (.map es clock)):
  (Instr.findNow q kk es.toList 0=some none->(Instr.mapUpdate t (vO b) kk val).run P w= .ok () {w with heap:=w.heap.setIfInBounds b (.map (es.push ⟨kk,val,clock⟩) (clock+1))})/\
  (∀j e,Instr.findNow q kk es.toList 0=some (some (j,e))->(∀e',es.toList[j]? =some e' ->e'.key=kk)->(∃e',es.toList[j]? =some e')->(Instr.mapUpdate t (vO b) kk val).run P w= .ok () {w with heap:=w.heap.setIfInBounds b (.map (es.modify j fun e=>{e with key:=kk,val:=val}) clock)}):=by
 refine⟨fun hf=>?_,fun j e hf hj he=>?_⟩
 ·simp [Instr.mapUpdate,vO,j3 hm,ML H,MJ hq hk,MapKept.run_findKey hq hf,MapKept.run_setObj_map _ H,Result.andThen]
 ·obtain⟨e',he'⟩:=he
  have X:=hj e' he'
  have K:es[j]? =some e' :=by simpa using he'
  simp [Instr.mapUpdate,vO,j3 hm,ML H,MJ hq hk,MapKept.run_findKey hq hf,MapKept.run_setObj_map _ H,Result.andThen,K,X,MapKept.run_keyThatStays hk]
def O9{y:β}{o:Option Nat×Nat}{val:Value}(hs:nm w S)(hm:E.P.underlying t=some (.map kt et))(hk:KU E.P kt kv)(hp:(Bm hx kv b (some k) os m).p w S)(hv:hx.p w S y o val)(hob:o.1≠some b)(hap: ∀o' ∈os,∀j,o.1=some j->o'.1≠some j):
  ∃w' os',(Instr.mapUpdate t (vO b) (kv k) val).run E.P w= .ok () w' /\la (fun j=>j=b) w S w' S/\nm w' S/\(Bm hx kv b none os' (hX m k y)).p w' S/\(∀j,(Bm hx kv b none os' (hX m k y)).fp j->(Bm hx kv b (some k) os m).fp j\/o.1=some j):=by
 obtain⟨hno,hnb,es,clock,h3,h4,hst⟩:=hp
 obtain⟨q,hq,hdk,hinj⟩:=hk
 obtain⟨os',p1,p2⟩:=Hf hdk hinj (born:=clock) hv 0 h4 hap
 have hnb' : ∀o' ∈os',o'.1≠some b:=fun o' ho' =>by
  rcases p1 o' ho' with h|rfl
  ·exact hnb o' h
  ·exact hob
 have hfp: ∀j,(j=b\/ ∃o∈os',o.1=some j)->(j=b\/ ∃o∈os,o.1=some j)\/o.1=some j:=fun j hj=>by
  rcases hj with h|⟨o',ho',e⟩
  ·exact .inl (.inl h)
  ·rcases p1 o' ho' with h|rfl
   ·exact .inl (.inr ⟨o',h,e⟩)
   ·exact .inr e
 have hw: ∀h1:Obj,la (fun j=>j=b) w S {w with heap:=w.heap.setIfInBounds b h1} S/\nm {w with heap:=w.heap.setIfInBounds b h1} S/\({w with heap:=w.heap.setIfInBounds b h1}:World).heap[b]? =some h1:=fun h1=>
  ⟨⟨rfl,rfl,rfl,eJ _,by simp,fun j _ hj=>(MapKept.heap_set (o' :=h1) h3).2 j hj,SH.le_refl _,fun _ _ _=>rfl⟩,hs.same fun j o hj=>(MapKept.heap_set (o' :=h1) h3).2 j (fun e=>by subst e;rw [hno]at hj;cases hj),(MapKept.heap_set h3).1⟩
 obtain⟨r1,r2⟩:=Cd (val:=val) hm hq (hdk k) h3
 rcases p2 with⟨j,e,g1,g2,g3,g4⟩|⟨g1,g2⟩
 ·rw [uT]at g1
  obtain⟨x1,x2,x3⟩:=hw (.map (es.modify j fun e=>{e with key:=kv k,val:=val}) clock)
  refine⟨_,os',r2 j _ g1 (fun e' he' =>by rw [g2]at he';cases he';exact g3) ⟨_,g2⟩,x1,x2,⟨hno,hnb',_,_,x3,?_,MapKept.stamped_modify hst j _ (fun _ _=>rfl) (fun e' _ he' =>by rw [<-Array.getElem?_toList,g2]at he';cases he';exact g3.symm)⟩,hfp⟩;refine BK x1 (by rw [Array.toList_modify];exact g4) fun o' ho' j hj e=>?_
  subst e
  exact hnb' o' ho' hj
 ·obtain⟨x1,x2,x3⟩:=hw (.map (es.push ⟨kv k,val,clock⟩) (clock+1))
  refine⟨_,os',r1 g1,x1,x2,⟨hno,hnb',_,_,x3,?_,MapKept.stamped_push hst (fun x V e=>?_)⟩,hfp⟩
  rotate_left
  ·exact Pn hdk h4 g1 V e
  refine BK x1 (by rw [Array.toList_push];exact g2) fun o' ho' j hj e=>?_
  subst e
  exact hnb' o' ho' hj
end

def Ad(tmps:Array Value):ResultVar->Sem Value
 | .tmp t=>pure (tmps.getD t undef)
 | .cell a t=>do loadVar t (<-asAddr (tmps.getD a undef))
def SB(P:Program)(N:Fr)(G:mV)(rv:ResultVar)(t:Ty):Prop:= ∀a w S,nm w S->cE N S a G-> ∃v,(Ad a.tmps rv).run P w= .ok v w/\t.p S v
def ni{N:Fr}{k:Nat}{t:Ty}(hk:cC G k=some t):SB P N G (.tmp k) t:=fun a w S _ hf=>⟨_,rfl,hf.at_ k t hk⟩
def we{N:Fr}{k:Nat}{x:α}(ti:TI P T sz bytes agg z)(hsz:r.sz=sz)(hag:r.agg=agg)(hk:cC G k=some (ck r x)):SB P N G (.cell k T) (tD r x):=fun a w S hs hf=>by
 obtain⟨b,off,c,U,fr,X,K,h3⟩:=hf.at_ k _ hk
 obtain⟨c',h4,h5⟩:=hs.part K (r.len h3)
 rw [<-h5]at h3
 have hl:=ko ti h4 hsz hag h3
 have h1' :a.tmps[k]?.getD undef=Value.pointer (some ⟨b,off,none⟩):=by simpa [HA] using X
 exact⟨_,by simp [Ad,h1',asAddr,hl],_,rfl,h3⟩
def PE(P:Program)(N:Fr)(G:mV):List ResultVar->List Ty->Prop
 |[],[]=>True
 |rv::rvs,t::ts=>SB P N G rv t/\PE P N G rvs ts
 |_,_=>False
def PE.run{N:Fr}(hs:nm w S)(hf:cE N S a G): ∀{rvs:List ResultVar} {ts:List Ty},PE P N G rvs ts-> ∃vs,(rvs.mapM (Ad a.tmps)).run P w= .ok vs w/\xH S ts vs/\vs.length=rvs.length
 |[],[],_=>⟨[],rfl,trivial,rfl⟩
 |rv::rvs,t::ts,⟨X,K⟩=>by
  obtain⟨v,g1,g2⟩:=X a w S hs hf
  obtain⟨vs,k1,k2,k3⟩:=PE.run hs hf K
  exact⟨v::vs,by simp [List.mapM_cons,g1,k1,Result.andThen],⟨g2,k2⟩,by simp [k3]⟩
def IX{rvs:List ResultVar}(hr:fn.results=rvs.toArray)(X:Nat.beq rvs.length 1=false)(h:PE P ⟨N,[]⟩ G rvs ts):
  AT ⟨P,⟨N,[]⟩,B,w0,S0,none⟩ (bodyPost P fn (KA ⟨P,⟨N,[]⟩,B,w0,S0,none⟩ (tT ts))) .ret O G:=fun a w S st=>by
 obtain⟨vs,k1,k2,k3⟩:=h.run st.sat st.facts
 have hne: ¬vs.length=1:=by rw [k3];intro e;rw [e]at X;cases X
 refine⟨st.facts.defers,.tuple vs.toArray,?_,_,S,rfl,st.ext,st.sat,vs,rfl,k2⟩
 have e1:(fn.results.mapM (Ad a.tmps)).run P w= .ok vs.toArray w:=by
  rw [hr,List.mapM_toArray,Sem.run_map,k1]
  rfl
 have e3:results fn a.tmps=((fn.results.mapM (Ad a.tmps))>>=fun vs=>pure (if h:vs.size=1 then vs[0]else .tuple vs)):=rfl
 rw [e3,uU,e1]
 simp [Result.andThen,hne]

def Qw{v:Value}(h:(tD (f6 r) xs).p S v):(f6 r).rc S [v] xs:=by
 obtain⟨cs,e,K⟩:=h
 obtain⟨a,cap,e2,h3⟩:=K
 subst e2
 rw [e]
 exact⟨a,cap,rfl,h3⟩
section
variable{ty:TypeId}
def nF{r:Rp β}{get:β->Value}{x:β}{p:Operand}(ti:TI E.P U 1 bytes false z)(hget:md r off rV get)(hm:bx r T b x∈O)(hv:get x=ay l cap n)(hp:aY E.N G p (M (Z b off))):
  cI E O G ⟨dst,.load U p,ty,pos,after,g⟩ (M (ay l cap n)):=(aL (q:=rV) ti rfl rfl hget hm hp).imp fun _ _ h=>by rw [<-hv];exact(yV.1 h).1
def mE{q:Rp α}{r:Rp β}{get:β->Value}{x:β}{hx:TypeId}{p:Operand}(ti:TI E.P U 1 bytes false z)(hget:md r off rV get)(hm:bx r T b x∈O)(hm2:tip q hx l cap xs∈O)(hv:get x=ay l cap xs.length)(hp:aY E.N G p (M (Z b off))):
  cI E O G ⟨dst,.load U p,ty,pos,after,g⟩ (tO q l cap xs):=fun a w S hs ho hf=>
 oO (fun _ _ ⟨v,S',X,K,h3,h4⟩=>⟨v,S',X,K,h3,h4,by
  have h5:v=ay l cap xs.length:=h4
  rw [h5]
  exact nr (((ho.ext0 K).mem _ hm2).1)⟩) (nF (g:=g) (ty:=ty) (pos:=pos) (after:=after) (dst:=dst) ti hget hm hv hp a w S hs ho hf)
def cr{o:Nat}{p:Operand}(hf:bZ E.P T i=some (off,sz))(h0:Nat.beq sz 0=false)(hp:aY E.N G p (M (Z b o)))(he:o+off=n):cI E O G ⟨dst,.fieldAddr T p i,ty,pos,after,g⟩ (M (Z b n)):=by
 subst he
 exact F2 hf h0 hp
def Al{q:Rp α}{r:Rp β}{x:β}{p:Operand}(ti:TI E.P U sz bytes agg z)(hsz:q.sz=sz)(hag:q.agg=agg)(hag2:r.agg=agg)(hsz2:r.sz=sz)(hm:bx r T b x∈O)(hc: ∀w S cs,fe E.base E.B w S O->r.rc S cs x->q.rc S cs y)(hp:aY E.N G p (M (Z b 0))):
  cI E O G ⟨dst,.load U p,ty,pos,after,g⟩ (tD q y):= .of_pure fun a w S _ ho hf=>by
 have X:a.eval p=Z b 0:=hp S a hf
 obtain⟨⟨_,cur,h5,h6⟩,_⟩:=ho.mem _ hm
 have h7:=hc w S _ ho h6
 have hl:=q.len h7
 have h8:q.rc S ((cur.toList.drop 0).take q.sz) y:=by rw [zr,uj (by omega)];exact h7
 exact⟨_,by simp [execOp,X,Z,Instr.loadAt,Instr.sureAddr,ko ti h5 hsz hag h8],_,rfl,h8⟩
def qk{q:Rp α}{hx:TypeId}(ho:fe base B w S O)(hm:tip q hx l cap xs∈O):(f6 q).rc S [ay l cap xs.length] xs:=Qw (nr (ho.mem _ hm).1)
end
def sm{α β γ:Type}(r:Rp α)(r' :Rp γ)(off:Nat)(q:Rp β)(x:α)(y:β)(x' :γ):Prop:= ∀S cs ds,r.rc S cs x->q.rc S ds y->r'.rc S (cs.take off++ds++cs.drop (off+q.sz)) x'
def HO{set:α->β->α}{x:α}{y:β}(h:gg r off q set):sm r r off q x y (set x y):=fun S cs ds X K=>h S cs x ds y X K
variable{r' :Rp γ}
def su{x:α}{y:γ}(hs:r.sz=r'.sz):sm r r' 0 r' x y y:=fun S cs ds X K=>by
 have hl:=r.len X
 rw [List.take_zero,oY,Hx (by omega),qC]
 exact K
def Tk{α' :Type}{p:Rp α}{p' :Rp α'}{x:α×β}{y:γ}{x1:α'}(h:sm p p' 0 u x.1 y x1)(hu:Nat.ble u.sz p.sz=true):sm (cH p q) (cH p' q) 0 u x y (x1,x.2):=fun S cs ds ⟨a,b,e,X,K⟩ hd=>by
 have hl:=p.len X
 have hu' :=sn hu
 have h3:=h S a ds X hd
 subst e
 rw [List.take_zero,oY,uT,I6 (by omega),<-pe]
 rw [List.take_zero,oY,uT]at h3
 exact⟨_,_,rfl,h3,K⟩
def j8{β' :Type}{p:Rp α}{q' :Rp β'}{x:α×β}{y:γ}{off' :Nat}{x2:β'}(h:sm q q' off u x.2 y x2)(ho:off' =p.sz+off):sm (cH p q) (cH p q') off' u x y (x.1,x2):=fun S cs ds ⟨a,b,e,X,K⟩ hd=>by
 have hl:=p.len X
 have h3:=h S b ds K hd
 subst e ho
 refine⟨a,_,?_,X,h3⟩
 have e1:p.sz+off-a.length=off:=by omega
 have e2:p.sz+off+u.sz-a.length=off+u.sz:=by omega
 rw [List.take_append,List.drop_append,uj (by omega),Hx (by omega),e1,e2]
 simp
variable{x' :γ}
def A2{α' β' :Type}{p:Rp α}{p' :Rp α'}{f:β->α}{f' :β' ->α'}{x:β}{x' :β'}{y:γ}{z:α'}(h:sm p p' off u (f x) y z)(e:f' x' =z):sm (nN p f) (nN p' f') off u x y x' :=fun S cs ds X K=>by
 show p'.rc S _ (f' x')
 rw [e]
 exact h S cs ds X K
section
variable{e:Exit}{ty:TypeId}
def hU{x:α}{y:β}{p v:Operand}(ti:TI E.P U sz bytes agg z)(hsz:q.sz=sz)(hset:sm r r' off q x y x')(hoff:Nat.ble (off+q.sz) r.sz=true)(hp:aY E.N G p (M (Z b off)))(hv:aY E.N G v (tD q y))(k:RG E ops aK rest (bx r' T b x' ::O) G):RG E ops aK (⟨none,.store U p v,ty,pos,after,none⟩::rest) (bx r T b x::O) G:= .of rfl fun a w S st=>by
 have X:a.eval p=Z b off:=hp S a st.facts
 obtain⟨ds,K,h3⟩:=hv S a st.facts
 obtain⟨⟨hno,cur,h5,h6⟩,_⟩:=st.own.1
 have hl:=r.len h6
 have hoff' :=sn hoff
 obtain⟨w',hr,e1,e2,e3,e4,e5,e6⟩:=kW ti hsz h3 h5 (off:=off) (by simp at hl;omega)
 have hrun:(execOp a.eval ⟨none,.store U p v,ty,pos,after,none⟩).run E.P w= .ok .skip w' :=by
  simp [execOp,X,K,Instr.storeAt,Z,Instr.sureAddr,hr]
 refine⟨fun c h=>(by cases h),?_⟩
 rw [hrun]
 obtain⟨g1,g2,g3⟩:=oN (O:=O) st.sat (bx r T b x) (bx r' T b x') st.own (fun _=>uk) (fun _=>uk) ⟨e1,e2,e3,e4.1,e4.2⟩ e6 ⟨hno,_,e5,by simpa using hset S _ _ h6 h3⟩ hno
 exact k _ _ S ⟨st.ext.step g1 (fun c hc=>st.own.1.2 c hc),g2,g3,st.facts⟩
def St.cvB{x:α}(h: ∀w S cs,fe E.base E.B w S O->r.rc S cs x->r'.rc S cs x')(st:St E (bx r T b x::O) G a w S):St E (bx r' T b x' ::O) G a w S:=
 st.own_map fun⟨⟨⟨X,c,K,h3⟩,h4⟩,h5,h6⟩=>⟨⟨⟨X,c,K,h _ _ _ h6 h3⟩,h4⟩,h5,h6⟩
def SD{x:α}(h: ∀w S cs,fe E.base E.B w S O->r.rc S cs x->r'.rc S cs x')(k:RG E ops aK rest (bx r' T b x' ::O) G):RG E ops aK rest (bx r T b x::O) G:=fun a w S st=>k a w S (st.cvB h)
def vW{x:α}(h: ∀w S cs,fe E.base E.B w S O->r.rc S cs x->r'.rc S cs x')(k:AT E aK e (bx r' T b x' ::O) G):AT E aK e (bx r T b x::O) G:=fun a w S st=>k a w S (st.cvB h)
end

section
variable{b:Frame}{k:List Item}{cs:List Frame}{F:Fence}
def rb:step P (lone (b.atR a (.code (.scope c)::k)) cs w)= .next (lone (b.atR a (.code c:: .inScope c::k)) cs w):=
 step_lone_go (by simp [stepG,stepG.exec,Frame.atR])
def FR:step P (lone (b.atR a (.inScope c::k)) cs w)= .next (lone (b.atR a k) cs w):=
 step_lone_go (by simp [stepG,stepG.exec,Frame.atR])
def K9(h:c.wpIn F n P (Exit.noGoto aK) a w):(Code.scope c).wpIn F n P aK a w:=by
 intro b k cs hro H hr
 have h0:(lone (b.atR a (.code (.scope c)::k)) cs w).fenced P F:=fenced_calm H hr rfl
 obtain⟨e,a₁,w₁,hq,harr⟩:=h b (.inScope c::k) cs hro H hr
 cases e with
 |normal=>exact⟨.normal,a₁,w₁,hq,.head h0 rb (StepsIn.trans harr (.one (fenced_calm H hr rfl) FR))⟩
 |exit id=>
  have V:exitTo id (.inScope c::k)=exitTo id k:=by simp [exitTo]
  exact⟨.exit id,a₁,w₁,hq,fun k' hk=> .head h0 rb (harr.1 k' (by rw [V];exact hk)),
   fun hr' hk=>let⟨k₁,X,K⟩:=harr.2 hr' (by rw [V];exact hk);⟨k₁,X,.head h0 rb K⟩⟩
 |goto l=>exact hq.elim
 |ret=>exact⟨_,a₁,w₁,hq,.of_steps (.one h0 rb) harr⟩
 |panic ch=>exact⟨_,a₁,w₁,hq,.of_steps (.one h0 rb) harr⟩
 |outgrown=>exact⟨_,a₁,w₁,hq,.of_steps (.one h0 rb) harr⟩
end
section
def FF(h:CG E (Exit.noGoto aK) c O G):CG E aK (.scope c) O G:=fun a w S st=>K9 (h a w S st)
def FG{l:Nat}(h:AT E aK .normal O G):CG E aK (.label l) O G:=fun a w S st=>wpIn_label (h a w S st)
def rx(h:AT E aK .ret O G):AT E (Exit.noGoto aK) .ret O G:=h
end

def Ir [Inhabited α](h:i<m):md (o7 r m) (i*r.sz) r (fun x=>(x[i]?).getD default):=fun S cs x ⟨X,K⟩=>by
 have hi:x[i]? =some ((x[i]?).getD default):=by rw [lI (by omega)];rfl
 exact A9 K hi
def NK [DecidableEq α] [Inhabited α]{t e:Nat}(D:P.underlying t=some (.array m e))(ti:TI P e sz bytes agg z)(hsz:r.sz=sz)(hag:r.agg=agg)(he:mn P e r n):mn P t (o7 r m) (n+1):=fun S cs ds x y aR w V hy=>by
 obtain⟨i,zv,hi,hs,_⟩:=ti.get
 have hcell:P.cellsOf e=r.sz:=by unfold Program.cellsOf;rw [hi];simp [hs,hsz]
 have e1:(o7 r m).val cs= .agg cs.toArray:=rfl
 have e2:(o7 r m).val ds= .agg ds.toArray:=rfl
 rw [e1,e2,show aR+(n+1)=(aR+n)+1 from rfl,run_equalIn_array w (aR+n) cs.toArray ds.toArray D hi,List.range_eq_range',hcell]
 have key: ∀k j,j+k=m->(Op.eqItems (aR+n) e r.sz cs.toArray ds.toArray (List.range' j k)).run P w= .ok (decide (x.drop j=y.drop j)) w:=by
  intro k
  induction k with
  |zero=>
   intro j hj
   rw [Hx (by have:=V.1;omega),Hx (by have:=hy.1;omega)]
   rfl
  |succ k ih=>
   intro j hj
   have hjx:j<x.length:=by have:=V.1;omega
   have hjy:j<y.length:=by have:=hy.1;omega
   have X:=tN ti hsz hag (Ir (r:=r) (m:=m) (i:=j) (by omega)) V w
   have K:=tN ti hsz hag (Ir (r:=r) (m:=m) (i:=j) (by omega)) hy w
   have h3:=he S _ _ _ _ aR w (Ir (r:=r) (m:=m) (i:=j) (by omega) S cs x V) (Ir (r:=r) (m:=m) (i:=j) (by omega) S ds y hy)
   rw [List.range'_succ]
   unfold Op.eqItems
   simp only [uU,X,K,h3,vY]
   have ex:x.drop j=(x[j]?).getD default::x.drop (j+1):=by rw [lI hjx];exact AO hjx
   have ey:y.drop j=(y[j]?).getD default::y.drop (j+1):=by rw [lI hjy];exact AO hjy
   rw [ex,ey]
   by_cases hq:(x[j]?).getD default=(y[j]?).getD default
   ·simp only [hq,decide_true,ug,r0,oV]
    rw [ih (j+1) (by omega)]
    congr 1
    simp
   ·simp [hq]
 have:=key m 0 (by omega)
 simpa using this
section
variable{ty:TypeId}
def uc{xs:List Operand}{sz' bytes' :Nat}{agg' :Bool}{z' :List Value}(D:E.P.underlying t=some (.array m T))(ti:TI E.P T sz bytes agg z)(hsz:r.sz=sz)(tj:TI E.P t sz' bytes' agg' z')(hz:z'.length=m*r.sz)(hm:m=ys.length)(V:lv E.N G xs (ys.map (tD r))):cI E O G ⟨dst,.build t (zT 0 xs).toArray,ty,pos,after,g⟩ (tD (o7 r m) ys):=
 .of_pure fun a w S _ _ hF=>by
  obtain⟨zv,hzr,hzc⟩:=tj.zero w
  obtain⟨cs,hc,hfill⟩:=E0 ys (xs.map a.eval) 0 [] z' (V.tys hF) (by simp) (by rw [hz,hm])
  subst hsz
  have hparts:((zT 0 xs).toArray.map fun(i,x)=>(i,a.eval x)).toList=C4 0 (xs.map a.eval):=by simpa using Cy a.eval 0 xs
  rw [oY,oY]at hfill
  refine⟨.agg cs.toArray,?_,cs,rfl,hm.symm,hc⟩
  simp only [execOp,Instr.build,uU,hzr,vY,j3 D,ti.sizeOf,hzc,hparts,hfill]
  simp
end
end Go.Proofs.YtdohlidddcgfjaaGreat

