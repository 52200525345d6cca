import Derived.Test.YtdohlidddcgfjaaGreatFgV1
import Derived.RangeFuncRecord
import Derived.RangeFuncLeaves
import Derived.Laws.StructEq
import Derived.Lib.ConvBytes
import Derived.Lib.AppendZeros
import Derived.Laws.MakeOwn
import Derived.MapKept
import Derived.Scope
import Derived.ChangeKeysEq
set_option linter.all false
namespace Go.Proofs.YtdohlidddcgfjaaGreat
open Go
variable{S:SH}{a:Act}{b:Nat}{e:TypeId}{α β:Type}{k:IntKind}{q:Rp β}{x:Operand}{y:α}
def ck{p:Rp α}:fd (dj p q) 0 p (fun x y=>(y,x.2)):=fun S cs x ds y h k=>by
 obtain⟨a,b,e,H,W⟩:=h;have hl:=p.len H;refine⟨ds,b,?_,k,W⟩;rw [e,<-hl];simp
variable{off:Nat}{γ:Type}{bx u:Rp γ}
def au{p:Rp α}{off' :Nat}{u:β->γ->β}(h:fd q off bx u)(ho:off' =p.sz+off):fd (dj p q) off' bx (fun x y=>(x.1,u x.2 y)):=fun S cs x ds y K hy=>by
 obtain⟨a,b,e,H,W⟩:=K;have hl:=p.len H;refine⟨a,b.take off++ds++b.drop (off+bx.sz),?_,H,h S b x.2 ds y W hy⟩;rw [e,ho,<-hl,List.take_length_add_append,show a.length+off+bx.sz=a.length+(off+bx.sz)from by omega,List.drop_length_add_append];simp
variable{f:FuncId}
def bO{p:Rp α}{q:Rp γ}{u:α->γ->α}{f:β->α}{set:β->γ->β}(h:fd p off q u)(hf: ∀x y,f (set x y)=u (f x) y):fd (sI p f) off q set:=fun S cs x ds y K hy=>by
 show p.rc S _ (f (set x y));rw [hf];exact h S cs (f x) ds y K hy
def jG(P:Program)(T:TypeId):Option (List (Nat×Nat)):=
 match P.underlying T with
 |some (.struct fs)=>fs.toList.mapM fun f=>(P.info? f.type).map fun q=>(f.offset,q.size)
 |_=>none
variable{P:Program}{w:World}
def Ht{P:Program}: ∀(fs:List Field) (ps:List (Nat×Nat)) (w:World),fs.mapM (fun f=>(P.info? f.type).map fun q=>(f.offset,q.size))=some ps->
  (fs.mapM (fun f=>do pure (f.offset,<-sizeOf f.type):Field->Sem (Nat×Nat))).run P w= .ok ps w
 |[],ps,w,h=>by
  simp at h;subst h;simp
 |f::fs,ps,w,h=>by
  simp only [List.mapM_cons]at h ⊢
  cases hq:P.info? f.type with
  |none=>simp [hq]at h
  |some q=>
   cases hr:fs.mapM (fun f=>(P.info? f.type).map fun q=>(f.offset,q.size))with
   |none=>simp [hq,hr]at h
   |some qs=>
    simp [hq,hr]at h;subst h;have ih:=Ht fs qs w hr;simp [sizeOf,typeInfo,hq]at ih ⊢;simp [ih]
variable{E:En}{G:ou}{aO:List OE}{T:TypeId}{after:Array Edge}{agg:Bool}{bytes:Nat}{c:Code}{dst:Option Tmp}{g:Option (Nat×Bool)}{i:Nat}{l:Option Nat}{o:Oper}{pos:String}{r:Rp α}{rest:List Oper}{sz:Nat}{z:List Value}
section
variable{ty:TypeId}
def BP(E:En)(G:ou){α:Type}(r:Rp α)(ps:List (Nat×Nat)):α->List (Nat×Operand)->α->Prop
 |x,[],y=>x=y
 |x,(i,o)::rest,y=> ∃(β:Type) (q:Rp β) (set:α->β->α) (off:Nat) (v:β),ps[i]? =some (off,q.sz)/\fd r off q set/\Nat.ble (off+q.sz) r.sz=true/\bk E.N G o (tD q v)/\BP E G r ps (set x v) rest y
def Ib{α:Type}{r:Rp α}{ps:List (Nat×Nat)}{S:SH}{a:Act}(hF:cD E.N S a G): ∀(parts:List (Nat×Operand)) (x y:α) (cs:List Value),BP E G r ps x parts y->r.rc S cs x->
  ∃ds,r.rc S ds y/\Instr.fill (ps.toArray[·]?) cs.toArray (parts.map fun p=>(p.1,a.eval p.2))=some ds.toArray
 |[],x,y,cs,h,K=>by
  have e:x=y:=h;subst e;exact⟨cs,K,rfl⟩
 |(i,o)::rest,x,y,cs,⟨β,q,set,off,v,H,W,h3,h4,h5⟩,K=>by
  obtain⟨c,hv,hc⟩:=h4 S a hF;have hl:=q.len hc;have hlr:=r.len K;have h3' :=vq h3;have hcells:(a.eval o).cells=c.toArray:=by rw [hv];exact yB hc
  obtain⟨ds,h6,h7⟩:=Ib hF rest _ y _ h5 (W S cs x c v K hc);refine⟨ds,h6,?_⟩;have hps:ps.toArray[i]? =some (off,q.sz):=by simpa using H
  have hs:(a.eval o).cells.size=q.sz:=by rw [hcells];simpa using hl
  have h8:=DF (a.eval o) off (cs.take off) ((cs.drop off).take q.sz) (cs.drop (off+q.sz)) (by rw [hs];simp;omega) (by simp;omega);have e1:cs.take off++(cs.drop off).take q.sz++cs.drop (off+q.sz)=cs:=by
   rw [jR,<-uH,vX,vX]
  rw [e1]at h8;simp only [Jw,Instr.fill,hps];rw [bB (by simp [hs,hlr];omega),h8,hcells];simpa using h7
def cI{x:α}{parts:List (Nat×Operand)}{ps:List (Nat×Nat)}(ti:TI E.P T sz bytes agg z)(hp:jG E.P T=some ps)(hz: ∀S,r.rc S z x)(V:BP E G r ps x parts y)(ha:r.agg=true:=by rfl):
  dw E aO G ⟨dst,.build T parts.toArray,ty,pos,after,g⟩ (tD r y):=
 .of_pure fun a w S _ _ hF=>by
  obtain⟨zv,hzr,hzc⟩:=ti.zero w;obtain⟨ds,H,W⟩:=Ib hF parts x y z V (hz S);unfold jG at hp;split at hp
  ·rename_i fs hu;have hpl:=Ht fs.toList ps w hp;have hpl2:(fs.mapM (fun f=>do pure (f.offset,<-sizeOf f.type):Field->Sem (Nat×Nat))).run E.P w= .ok ps.toArray w:=by
    have hfs:fs=fs.toList.toArray:=by simp
    generalize fs.toList=l at hfs hpl;subst hfs;rw [List.mapM_toArray,Sem.run_map,hpl];rfl
   refine⟨.agg ds.toArray,?_,ds,(vY ha ds).symm,H⟩;simp only [execOp,Instr.build,Am,hzr,Cc,mb hu,hpl2,hzc];have hm:(parts.toArray.map fun(i,x)=>(i,a.eval x)).toList=parts.map fun p=>(p.1,a.eval p.2):=by simp
   rw [hm,W];simp
  ·cases hp
end
variable{B:Nat->Prop}{N:Nat}{S0:SH}{U:TypeId}{fn:Func}{w0:World}
section
def IR{k:Nat}{x:α}(hr:fn.results= #[.cell k T])(ti:TI P T sz bytes agg z)(hsz:r.sz=sz)(hag:r.agg=agg)(hk:cX G k=some (da r x)):
  AT ⟨P,⟨N,[]⟩,B,w0,S0,none⟩ (bodyPost P fn (Mb ⟨P,⟨N,[]⟩,B,w0,S0,none⟩ (tD r x))) .ret aO G:=fun a w S st=>by
 obtain⟨b,off,c,U,fr,H,W,h3⟩:=st.facts.at_ k _ hk;obtain⟨c',h4,h5⟩:=st.sat.part W (r.len h3);rw [<-h5]at h3;refine⟨st.facts.defers,r.val ((c'.toList.drop off).take r.sz),?_,_,S,rfl,st.ext,st.sat,_,rfl,h3⟩;have hl:=lq ti h4 hsz hag h3;have h1' :a.tmps[k]?.getD undef=Value.pointer (some ⟨b,off,none⟩):=by simpa [KM] using H
 simp [results,hr,h1',asAddr,hl]
end
def qJ(L:List Oper):Nat->Nat->Nat->Bool
 |0,_,_=>false
 |n+1,i,j=>match L[i]? with
  |some o=>o.after.toList.any fun e=>Region.binds .any e&&(Nat.beq e.on j||qJ L n e.on j)
  |none=>false
def zV(L:List Oper)(m:Nat):Bool:=(List.range m).all fun j=>qJ L L.length m j
def Cq(L:List Oper)(n k:Nat):Bool:=(List.range k).all fun m=>zV L (n+m)&&(match L[n+m]? with|some o=>gr (n+m) o&&o.guard.isNone|none=>false)
variable{L:List Oper}{done:Array Bool}{hi j:Int}{n:Nat}
def i0{L:List Oper}{done:Array Bool}(down: ∀j o,L[j]? =some o->done.getD j false=true-> ∀e∈o.after,Region.binds .any e=true->done.getD e.on false=true):
  ∀(n i j:Nat),(∀o,L[i]? =some o-> ∀e∈o.after,Region.binds .any e=true->done.getD e.on false=true)->qJ L n i j=true->done.getD j false=true
 |0,_,_,_,h=>by cases h
 |n+1,i,j,hi,h=>by
  unfold qJ at h
  cases ho:L[i]? with
  |none=>rw [ho]at h;cases h
  |some o=>
   rw [ho]at h;obtain⟨e,he0,V⟩:=GK.1 h;have he:e∈o.after:=by simpa using he0
   rw [nw,CK]at V;have hd:=hi o ho e he V.1;rcases V.2 with H|H
   ·rw [<-t8 H];exact hd
   ·exact i0 down n e.on j (fun p hp=>down e.on p hp hd) H
variable{S' :SH}{d:Nat}{t:TypeId}{ts:List Ty}{w' :World}
def DJ.stepT{l:List Oper}(h:DJ E aO G l ts done a w S){t:Ty}{v:Value}(hi:l[i]? =some o)(hd:o.dst=some d)(hdN:d<E.N.n)(hs2: ∀j p,l[j]? =some p->done.getD j false=true->p.dst=some d->i=j)(hwait: ∀e∈o.after,Region.binds .any e=true->done.getD e.on false=true)(D:ts[i]? =some t)(hun:done.getD i true=false)(hext:mi xM w S w' S')(hsat:oF w' S')(hv:t.p S' v):DJ E aO G l ts (done.setIfInBounds i true) (a.put o.dst v) w' S' :=by
 have hda:d<a.tmps.size:=by rw [h.size];exact hdN
 have hlt:i<done.size:=by rw [h.dsz];exact(vK.1 hi).1
 have hset: ∀j,(done.setIfInBounds i true).getD j false=true->j=i\/done.getD j false=true:=fun j hj=>by
  by_cases hij:i=j
  ·exact .inl hij.symm
  ·rw [z7 false hij]at hj;exact .inr hj
 have hseti:(done.setIfInBounds i true).getD i false=true:=by simp [hlt]
 have hun' :done.getD i false=false:=by simp [hlt]at hun ⊢;exact hun
 refine⟨h.ext.step0 hext,hsat,h.own.ext0 hext,?_,?_,by simp [h.dsz],fun j p hj hdone e he V=>?_,fun k u hk hno=>?_,fun j p d' u hj hdone hd' hu=>?_⟩
 ·rw [hd];simp [Act.put,h.size]
 ·rw [hd];exact h.defers
 ·rcases hset j hdone with rfl|hj'
  ·rw [hi]at hj;have:o=p:=by simpa using hj
   subst this;exact B9 (hwait e he V)
  ·exact B9 (h.down j p hj hj' e he V)
 ·have hne:d≠k:=fun e=>hno i o hi hseti (by rw [hd,e]);rw [hd,xJ hda,bB hne];exact u.mono hext.keep (h.old k u hk fun j p hj hdone=>hno j p hj (B9 hdone))
 ·rw [hd,xJ hda];rcases hset j hdone with rfl|hj'
  ·rw [hi]at hj;have:o=p:=by simpa using hj
   subst this;rw [hd]at hd';have:d=d' :=by simpa using hd'
   subst this;rw [bM rfl];rw [D]at hu;have:t=u:=by simpa using hu
   subst this;exact hv
  ·have hne:d≠d' :=fun e=>by
    subst e;have:=hs2 j p hj hj' hd';subst this;rw [hj']at hun';cases hun'
   rw [bB hne];exact u.mono hext.keep (h.new j p d' u hj hj' hd' hu)
def rZ(h:i<done.size):done.getD i true=done.getD i false:=by simp [h]
def xv(h:nZ done=0)(hi:i<done.size):done.getD i false=true:=by
 unfold nZ at h;rw [List.countP_eq_zero]at h;have W:done[i]∈done.toList:=by simp
 have:=h _ W;rw [<-rZ hi];simpa [hi] using this
variable{tV:Exit->Act->World->Prop}{m:Nat}{xs:List α}
def CP{r:Option Nat}(hc: ∀m o,n<=m->L[m]? =some o->zV L m=true)(hedge: ∀m o,L[m]? =some o->gr m o=true):
  ∀(rest:List Oper) (m:Nat) (done:Array Bool) (fuel:Nat) (a:Act) (w:World),n<=m->L.drop m=rest->done.size=L.length->(∀j,j<L.length->(done.getD j false=true↔j<m))->nZ done=fuel->
   wpListIn (fw r) 0 P L.toArray tV rest a w->wpAnyIn (fw r) 0 P .any L.toArray tV fuel done a w:=by
 intro rest
 induction rest with
 |nil=>
  intro m done fuel a w hnm hdrop hsz hdone hu h;have hlen:L.length<=m:=zc.1 hdrop;have hr:Region.ready .any L.toArray done=[]:=by
   cases hr:Region.ready .any L.toArray done with
   |nil=>rfl
   |cons i r=>
    have hm:i∈Region.ready .any L.toArray done:=by rw [hr];exact jO ..
    obtain⟨hun,o,ho,_⟩:=wI.1 hm;have hi:i<L.length:=by simpa using (KL.1 ho).1
    have:=(hdone i hi).2 (by omega);rw [rZ (by omega)]at hun;rw [hun]at this;cases this
  cases fuel with
  |zero=>exact⟨hr,h⟩
  |succ f=>exact⟨fun _=>h,fun i hi=>by rw [hr]at hi;cases hi⟩
 |cons o rest ih=>
  intro m done fuel a w hnm hdrop hsz hdone hu h;have hm:m<L.length:=by
   rcases pj m L.length with h' |h'
   ·exact h'
   ·rw [zc.2 h']at hdrop;cases hdrop
  have hLm:L[m]? =some o:=by
   have:=zb (xs:=L) (i:=m) (j:=0);rw [hdrop]at this;simpa using this.symm
  have hmu:done.getD m true=false:=by
   have hnot: ¬(done.getD m false=true):=fun W=>by have:=(hdone m hm).1 W;omega
   rw [rZ (by omega)];exact Dp _▸hnot
  have honly: ∀i∈Region.ready .any L.toArray done,i=m:=by
   intro i hi;obtain⟨hun,p,hp,hwait⟩:=wI.1 hi;have hp' :L[i]? =some p:=by simpa using hp
   have hil:i<L.length:=(vK.1 hp').1;have hid: ¬i<m:=fun hlt=>by
    have W:=(hdone i hil).2 hlt;rw [rZ (by omega)]at hun;rw [hun]at W;cases W
   rcases pj m i with hlt|hge
   ·exfalso;have hcov:=hc i p (by omega) hp';unfold zV at hcov;have hre:=mI.1 hcov m (by simpa using hlt);have:done.getD m false=true:=by
     refine i0 (L:=L) (done:=done) (fun j q hj hjd e he V=>?_) _ i m (fun q hq e he V=>?_) hre
     ·have hjl:j<L.length:=(vK.1 hj).1;have hjm:=(hdone j hjl).1 hjd;have:=hedge j q hj;unfold gr at this;have:=mI.1 this e (by simpa using he);simp only [V,uc,ta,ye]at this;exact(hdone e.on (by omega)).2 (by omega)
     ·have:q=p:=by rw [hp']at hq;simpa using hq.symm
      subst this;exact hwait e he V
    have:=(hdone m hm).1 this;omega
   ·omega
  have hready:m∈Region.ready .any L.toArray done:=by
   rw [wI];refine⟨hmu,o,by simpa using hLm,fun e he V=>?_⟩;have:=hedge m o hLm;unfold gr at this;have:=mI.1 this e (by simpa using he);simp only [V,uc,ta,ye]at this;exact(hdone e.on (by omega)).2 this
  cases fuel with
  |zero=>
   have:=xv hu (i:=m) (by omega);have:=(hdone m hm).1 this;omega
  |succ fuel=>
   refine⟨fun hr=>(by rw [hr]at hready;cases hready),fun i hi=>?_⟩;have:=honly i hi;subst this;have hnext:=fun a w=>ih (i+1) (done.setIfInBounds i true) fuel a w (by omega) (by rw [<-uH,hdrop];rfl) (by simpa using hsz) (fun j hj=>by
    by_cases hij:i=j
    ·subst hij;have:i<done.size:=by omega
     simp [this]
    ·rw [z7 false hij,hdone j hj];omega) (by have:=uN hmu;omega)
   unfold wpOpIn;have hLm' :L.toArray[i]? =some o:=by simpa using hLm
   rw [hLm'];show if _ then _ else _;unfold wpListIn at h;by_cases hw:Region.wanted o (yielded L.toArray a.tmps)=true
   ·rw [bM hw]at h ⊢;exact Oper.wpIn_mono (fun a w hk=>hnext a w hk) h
   ·rw [bB hw]at h ⊢;exact⟨h.1,hnext _ _ h.2⟩
def MQ{l t:List Oper}(hsl:zh E.N.n [] l=true)(hlen:ts.length=l.length)(hd:DR E aO G (l++t) ts 0 l)(D:Cq (l++t) l.length t.length=true)(hQ: ∀a w S,St E aO (PW l ts G) a w S->wpListIn (fw E.r) 0 E.P (l++t).toArray tV t a w):
  ∀(fuel:Nat) (done:Array Bool) (a:Act) (w:World) (S:SH),nZ done=fuel->(∀j,l.length<=j->done.getD j false=false)->DJ E aO G (l++t) ts done a w S->wpAnyIn (fw E.r) 0 E.P .any (l++t).toArray tV fuel done a w:=by
 have hL1: ∀i o,i<l.length->(l++t)[i]? =some o->l[i]? =some o:=fun i o hi h=>by rwa [Ds hi]at h
 have hL2: ∀i o,l[i]? =some o->(l++t)[i]? =some o:=fun i o h=>by rw [Ds (vK.1 h).1];exact h
 have htail: ∀m o,l.length<=m->(l++t)[m]? =some o->zV (l++t) m=true/\gr m o=true:=fun m o hm ho=>by
  have hml:m<(l++t).length:=(vK.1 ho).1;rw [nY]at hml;unfold Cq at D;have:=mI.1 D (m-l.length) (by simp;omega);rw [show l.length+(m-l.length)=m from by omega,ho]at this;simp only [nw]at this;exact⟨this.1,this.2.1⟩
 have hedge: ∀i o,(l++t)[i]? =some o->gr i o=true:=fun i o hi=>by
  rcases pj i l.length with h|h
  ·obtain⟨_,_,_,_,_,h,_⟩:=DR.get l 0 hd i o (hL1 i o h hi);simpa using h
  ·exact(htail i o h hi).2
 obtain⟨hs1,hs2⟩:=AJ l [] hsl;have fin: ∀fuel done a w S,nZ done=fuel->(∀j,l.length<=j->done.getD j false=false)->DJ E aO G (l++t) ts done a w S->(∀i,i<l.length->done.getD i false=true)->wpAnyIn (fw E.r) 0 E.P .any (l++t).toArray tV fuel done a w:=by
  intro fuel done a w S hu hfree h hall;refine CP (n:=l.length) (fun m o hm ho=>(htail m o hm ho).1) hedge t l.length done fuel a w (kE _) (by simp) h.dsz (fun j hj=>⟨fun hjd=>?_,fun hlt=>hall j hlt⟩) hu
   (hQ a w S ⟨h.ext,h.sat,h.own,h.size,h.defers,fun j u hj=>?_⟩)
  ·rcases pj j l.length with h' |h'
   ·exact h'
   ·rw [hfree j h']at hjd;cases hjd
  ·rcases Kf l ts j u (fun o ho e=>by obtain⟨d,hd,_⟩:=hs1 o ho;rw [hd]at e;cases e) hlen hj with⟨i,o,H,W,h3⟩|⟨H,W⟩
   ·exact h.new i o j u (hL2 i o H) (hall i (vK.1 H).1) W h3
   ·refine h.old j u H fun i o ho hdn=>?_;rcases pj i l.length with h' |h'
    ·exact W o (t7 (hL1 i o h' ho))
    ·rw [hfree i h']at hdn;cases hdn
 have lower: ∀done a w S i,(∀j,l.length<=j->done.getD j false=false)->DJ E aO G (l++t) ts done a w S->i∈Region.ready .any (l++t).toArray done->l.length<=i-> ∀j,j<l.length->done.getD j false=true:=by
  intro done a w S i hfree h hi hge j hj;obtain⟨hun,p,hp,hwait⟩:=wI.1 hi;have hp' :(l++t)[i]? =some p:=by simpa using hp
  have hcov:=(htail i p hge hp').1;unfold zV at hcov;have hre:=mI.1 hcov j (by simp;omega);exact i0 h.down _ i j (fun q hq e he V=>by
   have:q=p:=by rw [hp']at hq;simpa using hq.symm
   subst this;exact hwait e he V) hre
 intro fuel
 induction fuel with
 |zero=>
  intro done a w S hu hfree h;exact fin 0 done a w S hu hfree h fun i hi=>xv hu (by rw [h.dsz,nY];omega)
 |succ fuel ih=>
  intro done a w S hu hfree h;by_cases hall: ∀i,i<l.length->done.getD i false=true
  ·exact fin _ done a w S hu hfree h hall
  have hready0: ∀m i,i<m->i<l.length->Region.ready .any (l++t).toArray done=[]->done.getD i false=true:=by
   intro m
   induction m with
   |zero=>intro i h;omega
   |succ m ihm=>
    intro i him hil hr;have his:i<done.size:=by rw [h.dsz,nY];omega
    by_cases hdn:done.getD i true=true
    ·rw [<-rZ his];exact hdn
    ·exfalso;obtain⟨o,ho⟩: ∃o,(l++t)[i]? =some o:=⟨l[i],hL2 i _ (vp hil)⟩;have hmem:i∈Region.ready .any (l++t).toArray done:=by
      rw [wI];refine⟨by simpa using hdn,o,by simpa using ho,fun e he V=>?_⟩;have:=hedge i o ho;unfold gr at this;have:=mI.1 this e (by simpa using he);simp only [V,uc,ta,ye]at this;exact ihm e.on (by omega) (by omega) hr
     rw [hr]at hmem;cases hmem
  refine⟨fun hr=>absurd (fun i hi=>hready0 (i+1) i (by omega) hi hr) hall,fun i hi=>?_⟩;have hil:i<l.length:=by
   rcases pj i l.length with h' |h'
   ·exact h'
   ·exact absurd (lower done a w S i hfree h hi h') hall
  obtain⟨hun,o,ho,hwait⟩:=wI.1 hi;have ho' :(l++t)[i]? =some o:=by simpa using ho
  have hol:=hL1 i o hil ho';obtain⟨needs,u,H,W,h3,_,h5⟩:=DR.get l 0 hd i o hol;rw [yA]at H h3;have hF:=h.need ho' hun hwait W h3;have h6:=h5 a w S h.sat h.own hF;have hu' :nZ (done.setIfInBounds i true)=fuel:=by have:=uN hun;omega
  obtain⟨d,hdd,hdN,_⟩:=hs1 o (t7 hol);have huq: ∀j p,(l++t)[j]? =some p->done.getD j false=true->p.dst=some d->i=j:=fun j p hj hjd hpd=>by
   rcases pj j l.length with h' |h'
   ·exact hs2 i j o p hol (hL1 j p h' hj) (by rw [hdd,hpd])
   ·rw [hfree j h']at hjd;cases hjd
  have hfree' : ∀j,l.length<=j->(done.setIfInBounds i true).getD j false=false:=fun j hj=>by
   rw [z7 false (by omega)];exact hfree j hj
  unfold wpOpIn;rw [ho];show if _ then _ else _;by_cases hw:Region.wanted o (yielded (l++t).toArray a.tmps)=true
  ·rw [bM hw]at h6 ⊢;refine nK (fun a' w' ⟨v,S',ha,he,hs,hv⟩=>?_) h6;subst ha;exact ih _ _ _ S' hu' hfree' (h.stepT ho' hdd hdN huq hwait H hun he hs hv)
  ·rw [bB hw]at h6 ⊢;exact⟨fun _ _=>trivial,ih _ _ _ S hu' hfree' (h.stepT ho' hdd hdN huq hwait H hun (mi.refl _ _ _) h.sat h6)⟩
def Xy{id:Nat}{l t:List Oper}(hL:L=l++t)(hm:E.P.follows .mixedOrders=true)(hsl:zh E.N.n [] l=true)(hlen:ts.length=l.length)(D:Cq L l.length t.length=true)(hd:DR E aO G L ts 0 l)(k:RG E L.toArray tV t aO (PW l ts G)):CG E tV (.region id L.toArray true) aO G:=fun a w S st=>by
 subst hL;refine wpIn_region_any hm ?_;obtain⟨he,hs⟩:=Bw (w:=w) st.sat;refine MQ hsl hlen hd D (fun a w S st=>k a w S st) _ _ _ _ S ?_ (fun j _=>?_)
  ⟨st.ext.step0 he,hs,st.own.ext0 he,st.facts.size,st.facts.defers,by simp,fun j o hj hdone=>?_,fun k t hk _=>st.facts.at_ k t hk,fun j o d t hj hdone=>?_⟩
 ·unfold nZ;rw [Ro,Rj];simp
 ·simp [CL];split<;>rfl
 ·simp [CL]at hdone;split at hdone<;>simp at hdone
 ·simp [CL]at hdone;split at hdone<;>simp at hdone
abbrev It(α:Type):=(σ:Type)->(α->σ->Option (Bool×σ))->σ->Option σ
variable{base:Nat}
def gm.weak: ∀{aO:List OE},gm base B w S aO->gm 0 xM w S aO
 |[],_=>trivial
 |_::_,⟨H,W,h3⟩=>⟨⟨H.1,fun _ _=> .inl (mT _)⟩,W,gm.weak h3⟩
def B4: ∀{aO:List OE},gm 0 xM w S aO->(∀f∈aO,∀k,f.fp k->base<=k\/B k)->gm base B w S aO
 |[],_,_=>trivial
 |_::_,⟨H,W,h3⟩,h=>⟨⟨H.1,h _ (jO ..)⟩,W,B4 h3 fun f hf=>h f (kX _ hf)⟩
section
variable{ty:TypeId}
end
variable{O1:List OE}{ι:Type}{O2:ι->List OE}
def tX: ∀{O1 O2:List OE},gm base B w S (O1++O2)->gm base B w S O1/\gm base B w S O2/\ ∀e∈O1,∀f∈O2,e.apart f
 |[],_,h=>⟨trivial,h,fun _ h=>(by cases h)⟩
 |e::O1,O2,⟨H,W,h3⟩=>by
  obtain⟨k1,k2,k3⟩:=tX h3;refine⟨⟨H,fun f hf=>W f (GS _ hf),k1⟩,k2,fun g Y f hf=>?_⟩;rcases ll.1 Y with rfl|Y
  ·exact W f (List.mem_append_right _ hf)
  ·exact k3 g Y f hf
section
section
variable{ty:TypeId}
end
end
section
variable{R:Ending->World->Prop}{ds:List Deferred}
end
def rT(t:Ty):Rp Unit where
 sz:=1
 agg:=false
 rc:=fun S cs _=> ∃v,cs=[v]/\v.oneCell' =true/\t.p S v
 mono:=fun h ⟨v,e,k,l⟩=>⟨v,e,k,t.mono h l⟩
 len:=fun⟨_,e,_⟩=>by rw [e];rfl
 one:=fun⟨v,e,k,_⟩ c hc=>by rw [e]at hc;simp at hc;subst hc;exact k
 sc:=fun _=>rfl
def tRT{t:Ty}{u:Unit}{v:Value}:(tD (rT t) u).p S v↔v.oneCell' =true/\t.p S v:=by
 constructor
 ·rintro⟨cs,rfl,w,rfl,H,W⟩;exact⟨H,W⟩
 ·rintro⟨H,W⟩;exact⟨[v],rfl,v,rfl,H,W⟩
variable{cap:Nat}{get:α->β}{k' :IntKind}{lo:Int}{ys:List α}
section
variable{ty:TypeId}
def dw.imp{t u:Ty}(h:dw E aO G o t)(k: ∀S v,t.p S v->u.p S v):dw E aO G o u:=fun a w S hs ho hf=>
 qn (fun _ _ ⟨v,S',H,W,h3,h4⟩=>⟨v,S',H,W,h3,k S' v h4⟩) (h a w S hs ho hf)
def NX{t:Ty}{p:Operand}(ti:TI E.P U 1 bytes false z)(hp:bk E.N G p (da (rT t) ())):dw E aO G ⟨dst,.load U p,ty,pos,after,g⟩ t:=
 (fC (r:=rT t) (x:=()) ti rfl rfl hp).imp fun _ _ h=>(tRT.1 h).2
def Lo:rV.rc S [.slice none 0 0] (aI none 0 0):=⟨rfl,rfl⟩
def Fb{N:Fr}(h:bk N G x (Q (aI l cap n))):bk N G x (tD rV (aI l cap n)):=fun S a hf=>By.2 ⟨h S a hf,by cases l<;>rfl⟩
def sY{p:Operand}(ti:TI E.P U 1 bytes false z)(hm:s rV T b (aI l cap n)∈aO)(hp:bk E.N G p (Q (M b 0))):
  dw E aO G ⟨dst,.load U p,ty,pos,after,g⟩ (Q (aI l cap n)):=(aA (q:=rV) (get:=fun x=>x) ti rfl rfl bm hm hp).imp fun _ _ h=>(By.1 h).1
def dr{α:Type}(xs:List α)(lo hi:Int):Option (List α):=if 0<=lo/\lo<=hi/\hi<=(xs.length:Int)then some ((xs.take hi.toNat).drop lo.toNat)else none
def gR(h:dr xs lo hi=some ys): ∃l m:Nat,lo=l/\hi=m/\l<=m/\m<=xs.length/\ys=(xs.take m).drop l:=by
 unfold dr at h;split at h
 ·rename_i hc;exact⟨lo.toNat,hi.toNat,by omega,by omega,by omega,by omega,by simpa using h.symm⟩
 ·cases h
def wP{a:Option Addr}{l:Nat}(h:JS r S a xs)(hl:l<=m)(hm:m<=xs.length)(hc:xs.length<=cap):
  JS r S (if cap=l then a else a.map (·.add (l*r.sz))) ((xs.take m).drop l):=by
 by_cases hlm:l=m
 ·left;subst hlm;simp
 right;rcases h with h|⟨b,off,c,T,fr,e1,e2,e3⟩
 ·subst h;simp at hm;omega
 subst e1;have hne: ¬(cap=l):=by omega
 refine⟨b,off+l*r.sz,c,T,fr,?_,e2,?_⟩
 ·rw [bB hne];simp [Addr.add]
 have hlen:((xs.take m).drop l).length=m-l:=by simp;omega
 have e4:xs=(xs.take m).take l++((xs.take m).drop l++xs.drop m):=by
  rw [<-jR,vX,vX]
 have H:((xs.take m).take l).length=l:=by simp;omega
 rw [e4]at e3;have W:=(tI e3).2;have h3:=(tI W).1;rw [H]at h3;rw [hlen]at h3 ⊢;rw [<-e4]at h3;rw [Cl,CJ,uH]at h3;have hmin:min ((m-l)*r.sz) (xs.length*r.sz-l*r.sz)=(m-l)*r.sz:=by
  rw [<-Nat.sub_mul];exact Aw (Dr _ (by omega))
 rwa [hmin]at h3
def jn{n:Int}{y:Nat}{code:BoundsCode}(h0:0<=n)(H:n<=y):(Instr.sliceBound (.int k n) y code).run P w= .ok n.toNat w:=by
 simp [Instr.sliceBound,asIntOf,h0,H]
def TV{lo hi:Operand}{i:Int}(D:E.P.underlying t=some (.slice T))(ti:TI E.P T sz bytes agg z)(hsz:r.sz=sz)(K:bk E.N G x (tD (gE r) xs))(hlo:bk E.N G lo (tD (rI k) i))(hhi:bk E.N G hi (tD (rI k') j))(h:dr xs i j=some ys):dw E aO G ⟨dst,.slice t x (some lo) (some hi) none,ty,pos,after,g⟩ (tD (gE r) ys):=
 .of_pure fun a w S _ _ hf=>by
  subst hsz;obtain⟨ad,cap,H,W,h3,h4⟩:=ku.1 (K S a hf);have h5:=fH.1 (hlo S a hf);have h6:=fH.1 (hhi S a hf);obtain⟨l,m,rfl,rfl,h7,h8,rfl⟩:=gR h;have hlen:((xs.take m).drop l).length=m-l:=by simp;omega
  refine⟨.slice (if cap=l then ad else ad.map (·.add (l*r.sz))) (m-l) (cap-l),?_,ku.2 ⟨_,cap-l,by rw [hlen],by omega,by omega,wP h4 h7 h8 W⟩⟩;simp [execOp,Instr.sliceAt,H,h5,h6,Instr.slice,mb D,Instr.sliceBounds,jn (k:=k') (n:=(m:Int)) (y:=cap) (by omega) (by omega),jn (k:=k) (n:=(l:Int)) (y:=m) (by omega) (by omega),ti.sizeOf]
def w4{hi:Operand}(D:E.P.underlying t=some (.slice T))(ti:TI E.P T sz bytes agg z)(hsz:r.sz=sz)(K:bk E.N G x (tD (gE r) xs))(hhi:bk E.N G hi (tD (rI k') j))(h:dr xs 0 j=some ys):dw E aO G ⟨dst,.slice t x none (some hi) none,ty,pos,after,g⟩ (tD (gE r) ys):=
 .of_pure fun a w S _ _ hf=>by
  subst hsz;obtain⟨ad,cap,H,W,h3,h4⟩:=ku.1 (K S a hf);have h6:=fH.1 (hhi S a hf);obtain⟨l,m,hl,rfl,h7,h8,rfl⟩:=gR h;have hl0:l=0:=by omega
  subst hl0;have hlen:((xs.take m).drop 0).length=m-0:=by simp;omega
  refine⟨.slice (if cap=0 then ad else ad.map (·.add (0*r.sz))) (m-0) (cap-0),?_,ku.2 ⟨_,cap-0,by rw [hlen],by omega,by omega,wP h4 h7 h8 W⟩⟩;simp [execOp,Instr.sliceAt,H,h6,Instr.slice,mb D,Instr.sliceBounds,jn (k:=k') (n:=(m:Int)) (y:=cap) (by omega) (by omega),ti.sizeOf]
def ro{lo:Operand}{i:Int}(D:E.P.underlying t=some (.slice T))(ti:TI E.P T sz bytes agg z)(hsz:r.sz=sz)(K:bk E.N G x (tD (gE r) xs))(hlo:bk E.N G lo (tD (rI k) i))(h:dr xs i (xs.length:Int)=some ys):dw E aO G ⟨dst,.slice t x (some lo) none none,ty,pos,after,g⟩ (tD (gE r) ys):=
 .of_pure fun a w S _ _ hf=>by
  subst hsz;obtain⟨ad,cap,H,W,h3,h4⟩:=ku.1 (K S a hf);have h5:=fH.1 (hlo S a hf);obtain⟨l,m,rfl,hm,h7,h8,rfl⟩:=gR h;have hm' :m=xs.length:=by omega
  subst hm';have hlen:((xs.take xs.length).drop l).length=xs.length-l:=by simp
  refine⟨.slice (if cap=l then ad else ad.map (·.add (l*r.sz))) (xs.length-l) (cap-l),?_,ku.2 ⟨_,cap-l,by rw [hlen],by omega,by omega,wP h4 h7 h8 W⟩⟩;simp [execOp,Instr.sliceAt,H,h5,Instr.slice,mb D,Instr.sliceBounds,jn (k:=k) (n:=(l:Int)) (y:=xs.length) (by omega) (by omega),ti.sizeOf]
end
def rK{id:Nat}(m:Nat)(hm:E.P.follows .mixedOrders=true)(hsl:zh E.N.n [] (L.take m)=true)(hlen:ts.length=(L.take m).length)(D:Cq L (L.take m).length (L.drop m).length=true)(hd:DR E aO G L ts 0 (L.take m))(k:RG E L.toArray tV (L.drop m) aO (PW (L.take m) ts G)):CG E tV (.region id L.toArray true) aO G:=Xy (vX m L).symm hm hsl hlen D hd k
def nv(P:Program){α:Type} [DecidableEq α](t:TypeId)(r:Rp α)(n:Nat):Prop:=
 ∀(S:SH) (cs ds:List Value) (x y:α) (d:Nat) (w:World),r.rc S cs x->r.rc S ds y->(Op.equalIn (d+n) t (r.val cs) (r.val ds)).run P w= .ok (decide (x=y)) w
def vm(h:P.underlying t=some (.int k')):nv P t (rI k) (n+1):=fun S cs ds x y d w K hy=>by
 have H:cs=[.int k x]:=K;have W:ds=[.int k y]:=hy;subst H W;have:(Op.equalIn (d+n+1) t (.int k x) (.int k y)).run P w= .ok (x==y) w:=by simp [Op.equalIn,mb h]
 have e:(x==y)=decide (x=y):=by by_cases h:x=y<;>simp [h]
 rw [e]at this;exact this
def WN(h:P.underlying t=some .bool):nv P t rB (n+1):=fun S cs ds x y d w K hy=>by
 have H:cs=[.bool x]:=K;have W:ds=[.bool y]:=hy;subst H W;have:=run_equalIn_bool' (P:=P) w (d+n) t x y h;simp only [Rp.val,rB,List.headD_cons,jc,hX];rw [show d+(n+1)=d+n+1 from rfl,this];cases x<;>cases y<;>rfl
def Z2(h:P.underlying t=some .string):nv P t rS (n+1):=fun S cs ds x y d w K hy=>by
 have H:cs=[.string ⟨x.toArray⟩]:=K;have W:ds=[.string ⟨y.toArray⟩]:=hy;subst H W;have:=run_equalIn_string (P:=P) w (d+n) t ⟨x.toArray⟩ ⟨y.toArray⟩ h;simp only [Rp.val,rS,List.headD_cons,jc,hX];rw [show d+(n+1)=d+n+1 from rfl,this];simp only [ByteArray.toList_eq];by_cases e:x=y<;>simp [e]
abbrev Fd:=TypeId×Nat×Bool
def Qu(f:Field):Fd:=(f.type,f.offset,f.name== "_")
def Uk(d:Nat)(xs ys:Array Value):List Fd->Sem Bool
 |[]=>pure true
 |f::fs=>
  if f.2.2=false then do
   let a<-part f.1 xs f.2.1
   let b<-part f.1 ys f.2.1
   let r<-Op.equalIn d f.1 a b
   if(!r)=true then pure false else Uk d xs ys fs
  else Uk d xs ys fs
def Oy(d:Nat)(xs ys:Array Value): ∀fs:List Field,Op.eqFields d xs ys fs=Uk d xs ys (fs.map Qu)
 |[]=>rfl
 |f::fs=>by
  unfold Op.eqFields Uk;rw [Oy d xs ys fs];by_cases h:f.name= "_"
  ·have e:((Qu f).2.2=false)=False:=by simp [Qu,h]
   simp only [Jw,e,hX];rw [bB (by simpa using h)]
  ·have e:((Qu f).2.2=false)=True:=by simp [Qu,h]
   simp only [Jw,e,gQ];rw [bM (by simpa using h)];rfl
def KE(P:Program){α:Type}(r:Rp α)(n:Nat)(fs:List Fd)(c:α->α->Bool):Prop:=
 ∀(S:SH) (cs ds:List Value) (x y:α) (d:Nat) (w:World),r.rc S cs x->r.rc S ds y->(Uk (d+n) cs.toArray ds.toArray fs).run P w= .ok (c x y) w
def KE.nil:KE P r n [] (fun _ _=>true):=fun _ _ _ _ _ _ _ _ _=>rfl
def wi(ti:TI P t sz bytes agg z)(hsz:q.sz=sz)(hag:q.agg=agg)(hf:lO r off q get){cs:List Value}{x:α}(K:r.rc S cs x)(w:World):
  (part t cs.toArray off).run P w= .ok (q.val ((cs.drop off).take q.sz)) w:=by
 have h:=hf S cs x K;have hl:=q.len h;subst hsz hag;unfold part;by_cases ha:q.agg=true
 ·have e1:=ti.isAgg w;simp only [Am,e1,ha,Cc,gQ,ti.sizeOf,Sem.run_pure];unfold Rp.val;rw [bM ha];congr 2;apply Array.ext';simp
 ·rw [Dp]at ha;have e1:=ti.isAgg w;have hs1:=q.sc ha;simp only [Am,e1,ha,Cc,jc,hX];rw [hs1]at hl ⊢;obtain⟨v,hv⟩:=List.length_eq_one_iff.1 hl;have hc:cs[off]? =some v:=by
   have:((cs.drop off).take 1)[0]? =some v:=by rw [hv];rfl
   rw [Cd (by omega),zb]at this;simpa using this
  unfold Rp.val;rw [hv,ha];simp [hc]
def KE.cons [DecidableEq β]{t:Nat}{fs:List Fd}{c:α->α->Bool}(ti:TI P t sz bytes agg z)(hsz:q.sz=sz)(hag:q.agg=agg)(hf:lO r off q get)(he:nv P t q n)(hr:KE P r n fs c):
  KE P r n ((t,off,false)::fs) (fun x y=>decide (get x=get y)&&c x y):=fun S cs ds x y d w K hy=>by
 have H:=wi ti hsz hag hf K w;have W:=wi ti hsz hag hf hy w;have h3:=he S _ _ _ _ d w (hf S cs x K) (hf S ds y hy);unfold Uk;simp only [gQ,Am,H,W,h3,Cc];by_cases e:get x=get y
 ·simp only [e,decide_true,uc,jc,hX,o4];exact hr S cs ds x y d w K hy
 ·simp [e]
def Dc [DecidableEq α]{t:Nat}{fs:List Fd}{c:α->α->Bool}(D:(P.underlying t).map (fun d=>match d with| .struct l=>(true,l.toList.map Qu)|_=>(false,[]))=some (true,fs))(hp:P.stoodInHeld t=false)(ha:r.agg=true)(hr:KE P r n fs c)(hc: ∀x y,c x y=decide (x=y)):nv P t r (n+1):=fun S cs ds x y d w K hy=>by
 obtain⟨l,H,W⟩: ∃l,P.underlying t=some (.struct l)/\l.toList.map Qu=fs:=by
  cases hu:P.underlying t with
  |none=>rw [hu]at D;cases D
  |some d=>
   rw [hu]at D;cases d<;>simp at D;exact⟨_,rfl,D⟩
 have hfo:P.fieldsOf t=l:=by unfold Program.fieldsOf;rw [H]
 have:=run_equalIn_struct (P:=P) w (d+n) t cs.toArray ds.toArray (by rw [hfo];exact H) hp;rw [vY ha,vY ha,show d+(n+1)=d+n+1 from rfl,this,hfo,Oy,W,hr S cs ds x y d w K hy,hc]
def mj [DecidableEq α](h:nv P t r n)(m:Nat):nv P t r (m+n):=fun S cs ds x y d w K hy=>by
 have:=h S cs ds x y (d+m) w K hy
 rwa [Nat.add_assoc]at this
def SR.of [DecidableEq α](Y:P.eqGuardType P.depth t=false)(h:nv P t r 20):SR P t r:=⟨Y,fun S cs ds x y d w K hy=>h S cs ds x y d w K hy⟩
def So{l:List α}{e:α}(h:xs.drop i=e::l):decide ((i:Int)<(xs.length:Int))=true:=by
 have:i<xs.length:=by
  rcases pj i xs.length with h' |h'
  ·exact h'
  ·rw [EO h']at h;cases h
 simp;omega
def WT(h:xs.drop i=[]):decide ((i:Int)<(xs.length:Int))=false:=by
 have:=zc.1 h;simp;omega
def ei{l:List α}{e:α}(h:xs.drop i=e::l):xs.drop (i+1)=l:=by
 rw [<-uH,h];rfl
def fh{l:List α}{e:α}(h:xs.drop i=e::l):gw xs (i:Int)=some e:=by
 rw [eU];have:=zb (xs:=xs) (i:=i) (j:=0);rw [h]at this;simpa using this.symm
def aay{l:List α}{e:α}(h:xs.drop i=e::l)(hN:xs.length<=maxLen):i<9223372036854775807:=by
 have:=of_decide_eq_true (So h);simp only [maxLen]at hN;omega
def Ym{k:Nat}(h:N-i=k+1):decide ((i:Int)<(N:Int))=true:=by simp;omega
def Yn(h:N-i=0):decide ((i:Int)<(N:Int))=false:=by simp;omega
def VU{k:Nat}(h:N-i=k+1):N-(i+1)=k:=by omega
def VV{k:Nat}(h:N-i=k+1)(hN:N<=9223372036854775807):i<9223372036854775807:=by omega
def adn(h:n<=maxLen):n<=9223372036854775807:=by simp only [maxLen]at h;omega
variable{ix:Operand}{mm:Bool}{ops:Array Oper}{zs:List α}
section
variable{e:Exit}
section
variable{ty:TypeId}
def BQ{one:Operand}{xt yt:TypeId}(hi:i<9223372036854775807)(K:bk E.N G x (tD (rI .i64) (i:Int)))(H:bk E.N G one (tD (rI .i64) 1)):
  dw E aO G ⟨dst,.binOp .add xt x one yt,ty,pos,after,g⟩ (tD (rI .i64) ((i+1:Nat):Int)):=by
 have e:IntKind.i64.wrap ((i:Int)+1)=((i+1:Nat):Int):=by
  rw [kW];omega
 have:=cU (E:=E) (aO:=aO) (dst:=dst) (ty:=ty) (pos:=pos) (after:=after) (g:=g) (xt:=xt) (yt:=yt) K H
 rwa [e]at this
end
def EJ(hm:o5 mm r T l cap xs∈aO)(h:xs.length<=maxLen->CG E tV c aO G):CG E tV c aO G:=fun a w S st=>by
 refine h ?_ a w S st;obtain⟨cells,H,_⟩:=(st.own.mem _ hm).1
 cases l with
 |none=>have:=H.1;omega
 |some b=>obtain⟨cur,_,g2,g3,_⟩:=H;exact z8 g2 g3
def St.dataAt{k:Nat}(h:St E aO G a w S)(hk:cX G k=some (tO r l cap xs)):St E aO ((k,tD (gE r) xs)::G) a w S:=h.cons (h.facts.at_ k _ hk).2
def UH(k:Nat)(hk:cX G k=some (tO r l cap xs))(h:CG E tV c aO ((k,tD (gE r) xs)::G)):CG E tV c aO G:=fun a w S st=>h a w S (st.dataAt hk)
def fa(k:Nat)(hk:cX G k=some (tO r l cap xs))(h:AT E tV e aO ((k,tD (gE r) xs)::G)):AT E tV e aO G:=fun a w S st=>h a w S (st.dataAt hk)
def Dd(l:Option Nat)(off:Nat):Value:=
 match l with
 |none=> .pointer none
 |some b=>M b off
def AY(h:Dj mm r T l cap xs w S){e:α}(hi:xs[i]? =some e):
  ∃b cur,l=some b/\w.heap[b]? =some (.cells cur T (0,0))/\xs.length<=cap/\cur.size=cap*r.sz/\r.rc S ((cur.toList.drop (i*r.sz)).take r.sz) e:=by
 obtain⟨cells,H,W,_⟩:=h;have hlt:=(vK.1 hi).1
 cases l with
 |none=>have:=H.1;omega
 |some b=>
  obtain⟨cur,g1,g2,g3,g4,g5⟩:=H;refine⟨b,cur,rfl,g1,g2,g4,?_⟩;have h3:=DW W hi;rw [<-g5,Cl,CJ]at h3;have h4:i*r.sz+r.sz<=xs.length*r.sz:=by
   rw [<-Nat.succ_mul];exact Dr _ hlt
  rwa [Aw (by omega)]at h3
def pQ{i:Int}{e:α}(h:gw xs i=some e):0<=i/\xs[i.toNat]? =some e:=by
 unfold gw at h;split at h
 ·exact⟨by assumption,h⟩
 ·cases h
section
variable{ty:TypeId}
def fP{e:TypeId}{i:Int}(D:E.P.underlying t=some (.slice e))(ti:TI E.P e sz bytes agg z)(hm:o5 mm r U l cap xs∈aO)(K:bk E.N G x (Q (aI l cap n)))(hi:bk E.N G ix (tD (rI k) i))(hy:gw xs i=some y)(hn:n=xs.length:=by rfl):
  dw E aO G ⟨dst,.indexAddr t x ix,ty,pos,after,g⟩ (Q (Dd l (i.toNat*sz+0))):=
 .of_pure fun a w S _ ho hf=>by
  subst hn;have H:a.eval x=aI l cap xs.length:=K S a hf;have h3:a.eval ix= .int k i:=fH.1 (hi S a hf);obtain⟨h0,hy'⟩:=pQ hy;obtain⟨b,cur,rfl,_⟩:=AY (ho.mem _ hm).1 hy';have hlt:i.toNat<xs.length:=(vK.1 hy').1;refine⟨_,?_,rfl⟩;have hc:0<=i/\i<(xs.length:Int):=⟨h0,by omega⟩;simp [execOp,H,h3,aI,Instr.indexAt,asIntOf,mb D,hc,ti.sizeOf,kL,Dd,M]
def kJ{foff:Nat}{i:Int}{p:Operand}(ti:TI E.P T sz bytes agg z)(hsz:q.sz=sz)(hag:q.agg=agg)(hget:lO r foff q get)(hoff:Nat.ble (foff+q.sz) r.sz=true)(hm:o5 mm r U l cap xs∈aO)(hy:gw xs i=some y)(hp:bk E.N G p (Q (Dd l (i.toNat*r.sz+foff)))):dw E aO G ⟨dst,.load T p,ty,pos,after,g⟩ (tD q (get y)):=
 .of_pure fun a w S _ ho hf=>by
  have H:a.eval p=Dd l (i.toNat*r.sz+foff):=hp S a hf;obtain⟨h0,hy'⟩:=pQ hy;obtain⟨b,cur,rfl,V,_,_,h6⟩:=AY (ho.mem _ hm).1 hy';have hoff' :=vq hoff;have h7:=hget S _ _ h6;rw [Cl,CJ,uH,Aw (by omega)]at h7;refine⟨_,?_,_,rfl,h7⟩;simp [execOp,H,Dd,M,Instr.loadAt,Instr.sureAddr,lq ti V hsz hag h7]
end
def Gw{α:Type}{r:Rp α}{S:SH}{y:α}{c:List Value}(hc:r.rc S c y): ∀{xs:List α} {i:Nat} {cs:List Value},uI r S cs xs->i<xs.length->uI r S (cs.take (i*r.sz)++c++cs.drop (i*r.sz+r.sz)) (xs.set i y)
 |[],_,_,_,h=>by simp at h
 |x::xs,0,cs,⟨a,b,e,H,W⟩,_=>by
  have hl:=r.len H;refine⟨c,b,?_,hc,W⟩;rw [e,<-hl];simp
 |x::xs,i+1,cs,⟨a,b,e,H,W⟩,h=>by
  have hl:=r.len H;have ih:=Gw hc W (i:=i) (by simpa using h);refine⟨a,_,?_,H,ih⟩;have e1:(i+1)*r.sz=a.length+i*r.sz:=by rw [hl,Av];omega
  rw [e,e1,List.take_length_add_append,Nat.add_assoc,List.drop_length_add_append];simp
def B2{set:α->β->α}{foff:Nat}{v:β}{i:Int}{p:Operand}{ty:TypeId}(ti:TI E.P T sz bytes agg z)(hsz:q.sz=sz)(hset:fd r foff q set)(hoff:Nat.ble (foff+q.sz) r.sz=true)(hy:gw xs i=some y)(hz:xs.set i.toNat (set y v)=zs)(hp:bk E.N G p (Q (Dd l (i.toNat*r.sz+foff))))(K:bk E.N G x (tD q v))(k:RG E ops tV rest (d5 r U l cap zs::aO) G):
  RG E ops tV (⟨none,.store T p x,ty,pos,after,none⟩::rest) (d5 r U l cap xs::aO) G:= .of rfl fun a w S st=>by
 subst hz;have H:a.eval p=Dd l (i.toNat*r.sz+foff):=hp S a st.facts;obtain⟨ds,W,h3⟩:=K S a st.facts;obtain⟨h0,hy'⟩:=pQ hy;have hlt:i.toNat<xs.length:=(vK.1 hy').1;obtain⟨cells,hraw,hrc,hno⟩:=st.own.1.1;obtain⟨b,cur,rfl,V,hle,hcs,h6⟩:=AY st.own.1.1 hy';obtain⟨cur',hb',hle',hmax,hcs',hct⟩:=hraw;have hcc:cur' =cur:=by rw [V]at hb';injection hb' with e;injection e with e1;exact e1.symm
 subst hcc;have hno' :S b=none:=hno b rfl;have hoff' :=vq hoff;have hl3:=q.len h3;have hmul:i.toNat*r.sz+r.sz<=xs.length*r.sz:=by rw [<-Nat.succ_mul];exact Dr _ hlt
 have hmul2:xs.length*r.sz<=cur'.size:=by rw [hcs];exact Dr _ hle
 obtain⟨w',hr,e1,e2,e3,e4,e5,e6⟩:=lQ ti hsz h3 V (off:=i.toNat*r.sz+foff) (by omega);have hrun:(execOp a.eval ⟨none,.store T p x,ty,pos,after,none⟩).run E.P w= .ok .skip w' :=by
  simp [execOp,H,W,Instr.storeAt,Dd,M,Instr.sureAddr,hr]
 refine⟨fun c h=>(by cases h),?_⟩;rw [hrun];have hnew:=hset S _ _ _ _ h6 h3;have hrc' :=Gw hnew hrc hlt;have hcl:=mv hrc;have hcells:(cur'.toList.take (i.toNat*r.sz+foff)++ds++cur'.toList.drop (i.toNat*r.sz+foff+q.sz)).take (xs.length*r.sz)=
   cells.take (i.toNat*r.sz)++(((cur'.toList.drop (i.toNat*r.sz)).take r.sz).take foff++ds++((cur'.toList.drop (i.toNat*r.sz)).take r.sz).drop (foff+q.sz))++cells.drop (i.toNat*r.sz+r.sz):=by
  subst hct;apply List.ext_getElem?;intro j;simp only [List.getElem?_take,List.getElem?_append,zb,Ca,Ao,nY,Fz];rcases pj j (xs.length*r.sz)with hj|hj
  ·simp only [hj,gQ];rcases pj j (i.toNat*r.sz)with hj1|hj1
   ·rw [bM (by omega),bM (by omega),bM (by omega),bM (by omega),bM (by omega),bM (by omega)]
   ·rcases pj j (i.toNat*r.sz+foff)with hj2|hj2
    ·rw [bM (by omega),bM (by omega),bM (by omega),bM (by omega),bB (by omega),bM (by omega),bM (by omega),bM (by omega),bM (by omega)];congr 1;omega
    ·rcases pj j (i.toNat*r.sz+foff+q.sz)with hj3|hj3
     ·rw [bM (by omega),bB (by omega),bM (by omega),bB (by omega),bM (by omega),bB (by omega)];congr 1;omega
     ·rw [bB (by omega)];rcases pj j (i.toNat*r.sz+r.sz)with hj4|hj4
      ·rw [bM (by omega),bB (by omega),bB (by omega),bM (by omega)];congr 1;omega
      ·rw [bB (by omega),bM (by omega)];congr 1;omega
  ·rw [bB (by omega),bB (by omega),bB (by omega)]
 obtain⟨g1,g2,g3⟩:=qm (aO:=aO) st.sat (d5 r U (some b) cap xs) (d5 r U (some b) cap (xs.set i.toNat (set y v))) st.own (fun k=>⟨fun h=>(uK h).symm,fun h=>by rw [h];rfl⟩) (fun k=>⟨fun h=>(uK h).symm,fun h=>by rw [h];rfl⟩) ⟨e1,e2,e3,e4.1,e4.2⟩ e6
  ⟨_,⟨_,e5,by rw [F3];exact hle,hmax,by simp only [Jz,nY,Ca,Ao,Fz];omega,by rw [F3];exact hcells⟩,hrc',fun k hk=>by rw [<-uK hk];exact hno'⟩ hno'
 exact k _ _ S ⟨st.ext.step g1 (fun c hc=>st.own.1.2 c (by rw [hc];rfl)),g2,g3,st.facts⟩
def qw(sz:Nat)(l:Option Nat)(cap lo n:Nat):Value:=
 match l with
 |none=> .slice none 0 0
 |some b=> .slice (some ⟨b,if cap=lo then 0 else lo*sz,none⟩) n (cap-lo)
section
variable{ty:TypeId}
def J6(h:Dj mm r U l cap xs w S): ∃ad c,aI l cap xs.length= .slice ad xs.length c/\xs.length<=c/\ad=l.map (fun b=>⟨b,0,none⟩)/\(l=none->c=0/\xs=[])/\(l≠none->c=cap):=by
 obtain⟨cells,H,_⟩:=h
 cases l with
 |none=>
  have K:xs=[]:=vM H.1;subst K;exact⟨none,0,rfl,kE _,rfl,fun _=>⟨rfl,rfl⟩,fun h=>absurd rfl h⟩
 |some b=>
  obtain⟨cur,_,g2,_⟩:=H;exact⟨_,cap,rfl,g2,rfl,fun h=>(by cases h),fun _=>rfl⟩
def rp{hi:Operand}(D:E.P.underlying t=some (.slice T))(ti:TI E.P T sz bytes agg z)(hsz:r.sz=sz)(hm:o5 mm r U l cap xs∈aO)(K:bk E.N G x (Q (aI l cap n)))(hhi:bk E.N G hi (tD (rI k') j))(h:dr xs 0 j=some ys)(hn:n=xs.length:=by rfl):dw E aO G ⟨dst,.slice t x none (some hi) none,ty,pos,after,g⟩ (Q (aI l cap ys.length)):=
 .of_pure fun a w S _ ho hf=>by
  subst hsz;subst hn;have H:a.eval x=aI l cap xs.length:=K S a hf;obtain⟨ad,c,W,h3,h4,h5,h5'⟩:=J6 (ho.mem _ hm).1;have h6:=fH.1 (hhi S a hf);obtain⟨lo,m,hl,rfl,h7,h8,rfl⟩:=gR h;have hl0:lo=0:=by omega
  subst hl0;have hlen:((xs.take m).drop 0).length=m:=by simp;omega
  refine⟨_,?_,rfl⟩;rw [W]at H;have hr:(execOp a.eval ⟨dst,.slice t x none (some hi) none,ty,pos,after,g⟩).run E.P w= .ok (.value (.slice ad m c)) w:=by
   simp [execOp,Instr.sliceAt,H,h6,Instr.slice,mb D,Instr.sliceBounds,jn (k:=k') (n:=(m:Int)) (y:=c) (by omega) (by omega),ti.sizeOf];cases ad<;>simp [Addr.add]
  rw [hr,hlen,h4]
  cases l with
  |none=>
   obtain⟨rfl,rfl⟩:=h5 rfl;have:m=0:=by simpa using h8
   subst this;rfl
  |some b=>rw [h5' (by simp)];rfl
def tL{lo:Operand}{i:Int}(D:E.P.underlying t=some (.slice T))(ti:TI E.P T sz bytes agg z)(hsz:r.sz=sz)(hm:o5 mm r U l cap xs∈aO)(K:bk E.N G x (Q (aI l cap n)))(hlo:bk E.N G lo (tD (rI k) i))(h:dr xs i (xs.length:Int)=some ys)(hn:n=xs.length:=by rfl):dw E aO G ⟨dst,.slice t x (some lo) none none,ty,pos,after,g⟩ (Q (qw sz l cap i.toNat ys.length)):=
 .of_pure fun a w S _ ho hf=>by
  subst hsz;subst hn;have H:a.eval x=aI l cap xs.length:=K S a hf;obtain⟨ad,c,W,h3,h4,h5,h5'⟩:=J6 (ho.mem _ hm).1;have h6:=fH.1 (hlo S a hf);obtain⟨lo',m,rfl,hm',h7,h8,rfl⟩:=gR h;have hm2:m=xs.length:=by omega
  subst hm2;have hlen:((xs.take xs.length).drop lo').length=xs.length-lo' :=by simp
  refine⟨_,?_,rfl⟩;rw [W]at H;have hr:(execOp a.eval ⟨dst,.slice t x (some lo) none none,ty,pos,after,g⟩).run E.P w= .ok (.value (.slice (if c=lo' then ad else ad.map (·.add (lo' *r.sz))) (xs.length-lo') (c-lo'))) w:=by
   simp [execOp,Instr.sliceAt,H,h6,Instr.slice,mb D,Instr.sliceBounds,jn (k:=k) (n:=(lo' :Int)) (y:=xs.length) (by omega) (by omega),ti.sizeOf]
  rw [hr,hlen,h4]
  cases l with
  |none=>
   obtain⟨rfl,rfl⟩:=h5 rfl;have:lo' =0:=by simpa using h7
   subst this;rfl
  |some b=>
   rw [h5' (by simp)];unfold qw;simp only [Cb,nq,kL,yA];split<;>rfl
def CT{i:Int}(h:dr xs lo hi=some ys)(hy:gw ys i=some y):gw xs (lo+i)=some y/\0<=lo/\0<=i:=by
 obtain⟨l,m,rfl,rfl,H,W,rfl⟩:=gR h;obtain⟨h0,h3⟩:=pQ hy;refine⟨?_,by omega,h0⟩;obtain⟨j,rfl⟩: ∃j:Nat,i=j:=⟨i.toNat,by omega⟩;rw [show((l:Int)+(j:Int))=((l+j:Nat):Int)from by omega,eU];rw [zb,Cb]at h3;have hlt:l+j<m:=by
  have:=(vK.1 h3).1;simp at this;omega
 rwa [Cd hlt]at h3
def Cw{e:TypeId}{i:Int}(D:E.P.underlying t=some (.slice e))(ti:TI E.P e sz bytes agg z)(hsz:r.sz=sz)(hm:o5 mm r U l cap xs∈aO)(hs:dr xs lo hi=some ys)(K:bk E.N G x (Q (qw sz l cap lo.toNat ys.length)))(hi' :bk E.N G ix (tD (rI k) i))(hy:gw ys i=some y):
  dw E aO G ⟨dst,.indexAddr t x ix,ty,pos,after,g⟩ (Q (Dd l ((lo+i).toNat*sz+0))):=
 .of_pure fun a w S _ ho hf=>by
  subst hsz;have H:a.eval x=qw r.sz l cap lo.toNat ys.length:=K S a hf;have h3:a.eval ix= .int k i:=fH.1 (hi' S a hf);obtain⟨hxi,hl0,hi0⟩:=CT hs hy;obtain⟨_,hx'⟩:=pQ hxi;obtain⟨b,cur,rfl,_,hle,_⟩:=AY (ho.mem _ hm).1 hx';have hlt:i.toNat<ys.length:=(vK.1 (pQ hy).2).1;have hlt2:(lo+i).toNat<xs.length:=(vK.1 hx').1;have hne: ¬(cap=lo.toNat):=by omega
  refine⟨_,?_,rfl⟩;have hc:0<=i/\i<(ys.length:Int):=⟨hi0,by omega⟩;have e1:(lo+i).toNat=lo.toNat+i.toNat:=by omega
  simp [execOp,H,h3,qw,hne,Instr.indexAt,asIntOf,mb D,hc,ti.sizeOf,kL,Dd,M,e1,Av]
def RP{e:TypeId}(D:E.P.underlying t=some (.slice e))(hm:o5 mm r U l cap xs∈aO)(hs:dr xs lo hi=some ys)(K:bk E.N G x (Q (qw sz l cap lo.toNat ys.length))):
  dw E aO G ⟨dst,.call ⟨.builtin .len,#[x],#[t]⟩,ty,pos,after,g⟩ (tD (rI .i64) (ys.length:Int)):=
 .of_pure fun a w S _ ho hf=>by
  have H:a.eval x=qw sz l cap lo.toNat ys.length:=K S a hf;obtain⟨ad,c,h3⟩: ∃ad c,qw sz l cap lo.toNat ys.length= .slice ad ys.length c:=by
   cases l with
   |none=>
    obtain⟨_,W,_⟩:=(ho.mem _ hm).1;have hx0:xs=[]:=vM W.1;subst hx0;obtain⟨l',m,_,_,_,h8,rfl⟩:=gR hs;exact⟨none,0,by simp [qw]⟩
   |some b=>exact⟨_,_,rfl⟩
  refine⟨.int .i64 ys.length,?_,fH.2 rfl⟩;simp [execOp,resolve,invoke,builtin,Builtin.len_,mb D,H,h3,goInt]
end
def SJ(h:dr xs 0 j=some ys)(k:Dj false r U l cap xs w S):Dj false r U l cap ys w S:=by
 obtain⟨lo,m,hl,rfl,h7,h8,rfl⟩:=gR h;have hl0:lo=0:=by omega
 subst hl0;obtain⟨cells,H,W,h3⟩:=k;have hlen:((xs.take m).drop 0).length=m:=by simp;omega
 have h4:uI r S (cells.take (m*r.sz)) (xs.take m):=by
  have e:xs=xs.take m++xs.drop m:=(vX _ _).symm;rw [e]at W;have:=(tI W).1
  rwa [show(xs.take m).length=m from by simp;omega]at this
 refine⟨cells.take (m*r.sz),?_,by simpa using h4,fun b V=>h3 b V⟩;rw [hlen]
 cases l with
 |none=>
  obtain⟨g1,g2⟩:=H;exact⟨by omega,by rw [g2];simp⟩
 |some b=>
  obtain⟨cur,g1,g2,g3,g4,g5⟩:=H;exact⟨cur,g1,by omega,g3,g4,by rw [<-g5,CJ,Aw (Dr _ h8)]⟩
def St.cut(h:dr xs 0 j=some ys)(st:St E (d5 r U l cap xs::aO) G a w S):St E (d5 r U l cap ys::aO) G a w S:=
 st.own_map fun ho=>⟨⟨SJ h ho.1.1,ho.1.2⟩,ho.2.1,ho.2.2⟩
def IA(h:dr xs 0 j=some ys)(k:RG E ops tV rest (d5 r U l cap ys::aO) G):RG E ops tV rest (d5 r U l cap xs::aO) G:=fun a w S st=>k a w S (st.cut h)
end
variable{x0 x1 x2 x3 x4 x5 x6:OE}
section
variable{e:Exit}
def xj{aO:List OE}(h:gm base B w S (x0::x1::x2::x3::x4::x5::aO)):gm base B w S (x5::x0::x1::x2::x3::x4::aO):=
 (yX h xk (fun f hf=>by simp only [ll]at hf ⊢;rcases hf with h|h|h|h|h|h<;>simp [h])).swap
def mP(h:RG E ops tV rest (x5::x0::x1::x2::x3::x4::aO) G):RG E ops tV rest (x0::x1::x2::x3::x4::x5::aO) G:=fun a w S st=>h a w S (st.own_map xj)
def ev(h:AT E tV e (x5::x0::x1::x2::x3::x4::aO) G):AT E tV e (x0::x1::x2::x3::x4::x5::aO) G:=fun a w S st=>h a w S (st.own_map xj)
def B7(h:LG E tV c (x5::x0::x1::x2::x3::x4::aO) G):LG E tV c (x0::x1::x2::x3::x4::x5::aO) G:=fun a w S st=>h a w S (st.own_map xj)
def xi{aO:List OE}(h:gm base B w S (x0::x1::x2::x3::x4::x5::x6::aO)):gm base B w S (x6::x0::x1::x2::x3::x4::x5::aO):=
 (yX h xj (fun f hf=>by simp only [ll]at hf ⊢;rcases hf with h|h|h|h|h|h|h<;>simp [h])).swap
def tW(h:RG E ops tV rest (x6::x0::x1::x2::x3::x4::x5::aO) G):RG E ops tV rest (x0::x1::x2::x3::x4::x5::x6::aO) G:=fun a w S st=>h a w S (st.own_map xi)
def kh(h:AT E tV e (x6::x0::x1::x2::x3::x4::x5::aO) G):AT E tV e (x0::x1::x2::x3::x4::x5::x6::aO) G:=fun a w S st=>h a w S (st.own_map xi)
def wE(h:LG E tV c (x6::x0::x1::x2::x3::x4::x5::aO) G):LG E tV c (x0::x1::x2::x3::x4::x5::x6::aO) G:=fun a w S st=>h a w S (st.own_map xi)
def IE{x7:OE}{aO:List OE}(h:gm base B w S (x0::x1::x2::x3::x4::x5::x6::x7::aO)):gm base B w S (x7::x0::x1::x2::x3::x4::x5::x6::aO):=
 (yX h xi (fun f hf=>by simp only [ll]at hf ⊢;rcases hf with h|h|h|h|h|h|h|h<;>simp [h])).swap
def B3{x7:OE}(h:RG E ops tV rest (x7::x0::x1::x2::x3::x4::x5::x6::aO) G):RG E ops tV rest (x0::x1::x2::x3::x4::x5::x6::x7::aO) G:=fun a w S st=>h a w S (st.own_map IE)
end
def va(h:xs.set i y=zs):zs.length=xs.length:=by rw [<-h,F3]
section
def tU(hl:m=n)(bx:Nat)(hs:cX G bx=some (Q (aI l cap n)))(k:RG E ops tV rest aO ((bx,Q (aI l cap m))::G)):RG E ops tV rest aO G:=by
 subst hl;exact fun a w S st=>k a w S (st.cons (st.facts.at_ bx _ hs))
end
def fY{o1 o2:Nat}{g1:α->β}{g2:β->γ}(H:lO r o1 q g1)(W:lO q o2 bx g2)(V:Nat.ble (o2+bx.sz) q.sz=true:=by rfl):lO r (o1+o2) bx (fun x=>g2 (g1 x)):=fun S cs x h=>by
 have h3:=W S _ _ (H S cs x h);have hb' :=vq V
 rwa [Cl,CJ,uH,Aw (by omega)]at h3
def nE{o1 o2:Nat}{g1:α->β}{u1:α->β->α}{u2:β->γ->β}(H:lO r o1 q g1)(k1:fd r o1 q u1)(k2:fd q o2 bx u2)(V:Nat.ble (o2+bx.sz) q.sz=true:=by rfl)(hc:Nat.ble (o1+q.sz) r.sz=true:=by rfl):
  fd r (o1+o2) bx (fun x y=>u1 x (u2 (g1 x) y)):=fun S cs x ds y h hy=>by
 have hb' :=vq V;have hc' :=vq hc;have hl:=r.len h;have h3:=k1 S cs x _ _ h (k2 S _ _ ds y (H S cs x h) hy);have e:cs.take (o1+o2)++ds++cs.drop (o1+o2+bx.sz)=cs.take o1++(((cs.drop o1).take q.sz).take o2++ds++((cs.drop o1).take q.sz).drop (o2+bx.sz))++cs.drop (o1+q.sz):=by
  rw [CJ,Aw (by omega),Cl,uH,List.take_add,show o1+(o2+bx.sz)=o1+o2+bx.sz from by omega];simp only [jR];congr 3;have e2:cs.drop (o1+q.sz)=(cs.drop (o1+o2+bx.sz)).drop (q.sz-(o2+bx.sz)):=by rw [uH];congr 1;omega
  rw [e2,vX]
 rw [e];exact h3
def bU(P:Program)(f:FuncId)(ts:List Ty)(O1:List OE){ι:Type}(t:ι->Ty)(O2:ι->List OE):Prop:=
 ∀w S vs,oF w S->Au S ts vs->gm 0 xM w S O1->Calls P f vs.toArray w fun en w' => ∃i v S',en= .returned v/\(t i).p S' v/\mi (fun k=> ∃f∈O1,f.fp k) w S w' S' /\oF w' S' /\gm 0 xM w' S' (O2 i)/\ ∀k,(∃f∈O2 i,f.fp k)->(∃f∈O1,f.fp k)\/w.heap.size<=k
def QT(E:En)(O1:List OE){ι:Type}(t:ι->Ty)(O2:ι->List OE):Ending->World->Prop:=fun en w' =>
 ∃i v S',en= .returned v/\(t i).p S' v/\mi E.B E.w0 E.S0 w' S' /\oF w' S' /\gm 0 xM w' S' (O2 i)/\ ∀k,(∃f∈O2 i,f.fp k)->(∃f∈O1,f.fp k)\/E.w0.heap.size<=k
def Kl(O1:List OE):Nat->Prop:=fun k=> ∃f∈O1,f.fp k
def bU.of{t:ι->Ty}(hf:P.funcs[f]? =some fn)(V:fn.body=some c)(hN:fn.ntmps=N)(hn:Nat.ble ts.length N=true)(h: ∀w0 S0,CG ⟨P,⟨N,[]⟩,Kl O1,w0,S0,none⟩ (bodyPost P fn (QT ⟨P,⟨N,[]⟩,Kl O1,w0,S0,none⟩ O1 t O2)) c O1 (Cz 0 ts)):bU P f ts O1 t O2:=by
 subst hN;intro w S vs hs hv ho;exact zX.1 (callsIn_of_wp (F:=fw none) (n:=0) hf V trivial (h w S _ w S ⟨mi.refl _ _ _,hs,B4 ho fun f hf k hk=> .inr ⟨f,hf,hk⟩,C9 hv _ (vq hn)⟩))
def Ew{t:ι->Ty}{v:Value}(st:St E aO G a w S)(hB:E.B=Kl O1)(i:ι)(hO:aO=O2 i)(hv:(t i).p S v):QT E O1 t O2 (.returned v) w:=by
 subst hO;refine⟨i,v,S,rfl,hv,st.ext,st.sat,st.own.weak,fun k ⟨f,hf,hk⟩=>?_⟩;rcases(gm.mem st.own f hf).2 k hk with h|h
 ·exact .inr h
 ·rw [hB]at h;exact .inl h
section
variable{t:ι->Ty}
def ci{k:Nat}{u:Ty}(hr:fn.results= #[.tmp k])(i:ι)(hO:aO=O2 i)(hk:cX G k=some u)(hu: ∀S v,u.p S v->(t i).p S v):
  AT ⟨P,⟨N,[]⟩,Kl O1,w0,S0,none⟩ (bodyPost P fn (QT ⟨P,⟨N,[]⟩,Kl O1,w0,S0,none⟩ O1 t O2)) .ret aO G:=fun _ _ S st=>
 ⟨st.facts.defers,_,vN P fn k hr _ _,Ew st rfl i hO (hu S _ (st.facts.at_ k u hk))⟩
def xp(hr:fn.results= #[])(i:ι)(hO:aO=O2 i)(D:t i=tT []):
  AT ⟨P,⟨N,[]⟩,Kl O1,w0,S0,none⟩ (bodyPost P fn (QT ⟨P,⟨N,[]⟩,Kl O1,w0,S0,none⟩ O1 t O2)) .ret aO G:=fun _ _ S st=>
 ⟨st.facts.defers,_,yC P fn hr _ _,Ew st rfl i hO (by rw [D];exact⟨[],rfl,trivial⟩)⟩
def mQ(hr:fn.results= #[])(i:ι)(hO:aO=O2 i)(D:t i=tT []):
  AT ⟨P,⟨N,[]⟩,Kl O1,w0,S0,none⟩ (bodyPost P fn (QT ⟨P,⟨N,[]⟩,Kl O1,w0,S0,none⟩ O1 t O2)) .normal aO G:=fun _ _ S st=>
 ⟨st.facts.defers,_,yC P fn hr _ _,Ew st rfl i hO (by rw [D];exact⟨[],rfl,trivial⟩)⟩
end
def ID: ∀{O1 O2:List OE},gm base B w S O1->gm base B w S O2->(∀e∈O1,∀f∈O2,e.apart f)->gm base B w S (O1++O2)
 |[],_,_,h,_=>h
 |e::O1,O2,⟨H,W,h3⟩,h,ha=>⟨H,fun f hf=>(An.1 hf).elim (W f) (ha e (jO ..) f),ID h3 h fun g Y f hf=>ha g (kX _ Y) f hf⟩
variable{ats:Array TypeId}
section
variable{ty:TypeId}
def St.turn{Or O2:List OE}(st:St E (O1++Or) G a w S)(K:mi (fun k=> ∃f∈O1,f.fp k) w S w' S')(hs:oF w' S')(ho:gm 0 xM w' S' O2)(hn: ∀k,(∃f∈O2,f.fp k)->(∃f∈O1,f.fp k)\/w.heap.size<=k):St E (O2++Or) G a w' S' :=by
 obtain⟨H,W,h3⟩:=tX st.own;have hbl:=st.base_le;refine⟨st.ext.step K (fun b ⟨f,hf,V⟩=>(gm.mem H f hf).2 b V),hs,ID (B4 ho fun f hf k hk=>?_) (W.ext K fun f hf b V ⟨g,Y,hgb⟩=>h3 g Y f hf b hgb V) (fun e he f hf b heb hfb=>?_),st.facts.mono K.keep⟩
 ·rcases hn k ⟨f,hf,hk⟩with⟨g,Y,hgk⟩|h
  ·exact(gm.mem H g Y).2 k hgk
  ·exact .inl (z8 hbl h)
 ·rcases hn b ⟨e,he,heb⟩with⟨g,Y,hgb⟩|h
  ·exact h3 g Y f hf b hgb hfb
  ·have:=f.here (gm.mem W f hf).1 b hfb;omega
def OS{xs:List Operand}(O1 Or:List OE){t:ι->Ty}(hO:aO=O1++Or)(hc:aj E.P f=true)(hs:bU E.P f ts O1 t O2)(K:nD E.N G xs ts)(hd:Nat.blt d E.N.n=true)(k: ∀i,RG E ops tV rest (O2 i++Or) ((d,t i)::G)):
  RG E ops tV (⟨some d,.call ⟨.value (.func f),xs.toArray,ats⟩,ty,pos,after,none⟩::rest) aO G:= .of rfl fun a w S st=>by
 subst hO;have hr:(execOp a.eval ⟨some d,.call ⟨.value (.func f),xs.toArray,ats⟩,ty,pos,after,none⟩).run E.P w= .ok (.enter f (xs.map a.eval).toArray) w:=by
  simp [execOp,resolve,Act.eval,Deferred.ofValue,invoke,k7 hc]
 refine⟨fun c h=>(by cases h),?_⟩;rw [hr];refine(hs w S _ st.sat (K.tys st.facts) (tX st.own).1.weak).mono fun en w' ⟨i,v,S',he,hv,H,W,h3,h4⟩=>⟨_,he,?_⟩;exact k i _ _ S' ((st.turn H W h3 h4).put hd hv)
end
structure OI where
 h:Nat->Option Nat×Nat:=fun _=>(none,0)
 os:List (Option Nat×Nat):=[]
 fp:Nat->Prop:=xM
 v:Value:=undef
 ng:Nat->(Option Nat×Nat)×(Nat->Option Nat×Nat):=fun _=>((none,0),fun _=>(none,0))
 oss:Nat->List (Option Nat×Nat):=fun _=>[]
def fe:OI:={}
def oi(l:Option Nat)(c:Nat):OI:={h:=fun _=>(l,c)}
def EffOK(E:En)(aO:List OE)(need:ou)(o:Oper)(post:OI->List OE)(t:OI->Ty):Prop:=
 ∀a w S,oF w S->gm E.base E.B w S aO->cD E.N S a need->E.base<=w.heap.size->
  NQ E.P o a w (fun a' w' => ∃v S' x,a' =a.put o.dst v/\mi (Kl aO) w S w' S' /\oF w' S' /\gm E.base E.B w' S' (post x)/\(t x).p S' v)
variable{post:OI->List OE}{t' :TypeId}
section
variable{ty:TypeId}
def Ii{y:Operand}{u:OI->Ty}(ti:TI E.P T sz bytes agg z)(hsz:r.sz=sz)(hz:Nat.beq z.length sz=true)(h0:Nat.blt 0 sz=true)(h128:Nat.ble bytes 2048=true)(D:E.P.underlying t=some (.slice T))(K:bk E.N G x (Q (aI l cap n)))(hy: ∀a w S,oF w S->cD E.N S a G-> ∃news,Src E.P r.sz t' (a.eval y) ys.length news w/\uI r S news ys)(happ:hU xs ys=some zs)(hu: ∀l' cap' w0 S,(o5 mm r T l' cap' zs).p w0 S->(u (oi l' cap')).p S (aI l' cap' zs.length))(hn:n=xs.length):
  EffOK E (o5 mm r T l cap xs::aO) G ⟨some d,.call ⟨.builtin .append,#[x,y],#[t,t']⟩,ty,pos,after,g⟩ (fun i=>o5 mm r T (i.h 0).1 (i.h 0).2 zs::aO) u:=fun a w S hs ho hf V=>by
 subst hn;have H:a.eval x=aI l cap xs.length:=K S a hf;obtain⟨news,W,h3⟩:=hy a w S hs hf;obtain⟨l',cap',w',S',hr,hext,hsat,hh,hnew⟩:=AQ (ty:=ty) ti hsz hz h0 h128 D hs ho.1 V W h3 happ;have hrun:(execOp a.eval ⟨some d,.call ⟨.builtin .append,#[x,y],#[t,t']⟩,ty,pos,after,g⟩).run E.P w= .ok (.value (aI l' cap' zs.length)) w' :=by
  simp [execOp,resolve,invoke,builtin,H,hr]
 refine⟨fun c h=>(by cases h),?_⟩;rw [hrun];refine⟨_,S',oi l' cap',rfl,hext.more fun b V=>⟨_,jO ..,V⟩,hsat,⟨hh,fun f hf b V hfb=>?_,ho.2.2.ext hext fun f hf b V hbl=>ho.2.1 f hf b hbl V⟩,hu l' cap' w' S' hh.1⟩;rcases hnew b V with h|h
 ·exact ho.2.1 f hf b h hfb
 ·have:=f.here (gm.mem ho.2.2 f hf).1 b hfb;omega
def vH{y:Operand}(ti:TI E.P T sz bytes agg z)(hsz:r.sz=sz)(hz:Nat.beq z.length sz=true)(h0:Nat.blt 0 sz=true)(h128:Nat.ble bytes 2048=true)(D:E.P.underlying t=some (.slice T))(ht' :t' =t)(K:bk E.N G x (Q (aI l cap n)))(hy:bk E.N G y (tD (gE r) ys))(happ:hU xs ys=some zs)(hn:n=xs.length:=by rfl):
  EffOK E (d5 r T l cap xs::aO) G ⟨some d,.call ⟨.builtin .append,#[x,y],#[t,t']⟩,ty,pos,after,g⟩ (fun i=>d5 r T (i.h 0).1 (i.h 0).2 zs::aO) (fun i=>Q (aI (i.h 0).1 (i.h 0).2 zs.length)):=by
 subst ht';exact Ii ti hsz hz h0 h128 D K (fun a w S hs hf=>xy D hs (hy S a hf)) happ (fun _ _ _ _ _=>rfl) hn
def OB{y:Operand}(ti:TI E.P T sz bytes agg z)(hsz:r.sz=sz)(hz:Nat.beq z.length sz=true)(h0:Nat.blt 0 sz=true)(h128:Nat.ble bytes 2048=true)(D:E.P.underlying t=some (.slice T))(ht' :t' =t)(K:bk E.N G x (tO r l cap xs))(hy:bk E.N G y (tD (gE r) ys))(happ:hU xs ys=some zs):
  EffOK E (lP r T l cap xs::aO) G ⟨some d,.call ⟨.builtin .append,#[x,y],#[t,t']⟩,ty,pos,after,g⟩ (fun i=>lP r T (i.h 0).1 (i.h 0).2 zs::aO) (fun i=>tO r (i.h 0).1 (i.h 0).2 zs):=by
 subst ht';exact Ii ti hsz hz h0 h128 D (DE K) (fun a w S hs hf=>xy D hs (hy S a hf)) happ (fun _ _ _ _ h=>⟨rfl,pN h⟩) rfl
def gm.turn{Or O2:List OE}(h:gm base B w S (O1++Or))(hbl:base<=w.heap.size)(K:mi (Kl O1) w S w' S')(ho:gm 0 xM w' S' O2)(hn: ∀k,(∃f∈O2,f.fp k)->(∃f∈O1,f.fp k)\/w.heap.size<=k):gm base B w' S' (O2++Or):=by
 obtain⟨H,W,h3⟩:=tX h;refine ID (B4 ho fun f hf k hk=>?_) (W.ext K fun f hf b V ⟨g,Y,hgb⟩=>h3 g Y f hf b hgb V) (fun e he f hf b heb hfb=>?_)
 ·rcases hn k ⟨f,hf,hk⟩with⟨g,Y,hgk⟩|h
  ·exact(gm.mem H g Y).2 k hgk
  ·exact .inl (z8 hbl h)
 ·rcases hn b ⟨e,he,heb⟩with⟨g,Y,hgb⟩|h
  ·exact h3 g Y f hf b hgb hfb
  ·have:=f.here (gm.mem W f hf).1 b hfb;omega
def ay{xs:List Operand}(O1 Or:List OE){t:OI->Ty}{O2:OI->List OE}(hO:aO=O1++Or)(hc:aj E.P f=true)(hs:bU E.P f ts O1 t O2)(K:nD E.N G xs ts)(hpost: ∀i,O2 i++Or=post i):
  EffOK E aO G ⟨some d,.call ⟨.value (.func f),xs.toArray,ats⟩,ty,pos,after,g⟩ post t:=fun a w S hsat ho hf V=>by
 subst hO;obtain rfl:(fun i=>O2 i++Or)=post:=funext hpost;have hr:(execOp a.eval ⟨some d,.call ⟨.value (.func f),xs.toArray,ats⟩,ty,pos,after,g⟩).run E.P w= .ok (.enter f (xs.map a.eval).toArray) w:=by
  simp [execOp,resolve,Act.eval,Deferred.ofValue,invoke,k7 hc]
 refine⟨fun c h=>(by cases h),?_⟩;rw [hr];exact(hs w S _ hsat (K.tys hf) (tX ho).1.weak).mono fun en w' ⟨i,v,S',he,hv,H,W,h3,h4⟩=>⟨_,he,v,S',i,rfl,H.more fun b ⟨f,hf,V⟩=>⟨f,GS _ hf,V⟩,W,gm.turn ho V H h3 h4,hv⟩
def bc{op:Op}{t:OI->Ty}(h:EffOK E aO G ⟨some d,op,ty,pos,after,none⟩ post t)(hd:Nat.blt d E.N.n=true)(k: ∀x:OI,RG E ops tV rest (post x) ((d,t x)::G)):RG E ops tV (⟨some d,op,ty,pos,after,none⟩::rest) aO G:= .of rfl fun a w S st=>
 qn (fun a' w' ⟨v,S',x,ha,K,hs,ho,hv⟩=>by
  subst ha;exact k x _ _ S' ⟨st.ext.step K fun b ⟨f,hf,V⟩=>(gm.mem st.own f hf).2 b V,hs,ho,(st.facts.mono K.keep).put hd hv⟩) (h a w S st.sat st.own st.facts st.base_le)
end
def Po(σ:Nat->OI)(k:Nat)(x:OI):Nat->OI:=fun j=>bif Nat.beq j k then x else σ j
def KT(σ:Nat->OI){k j:Nat}(x:OI)(h:j≠k):Po σ k x j=σ j:=by
 have:Nat.beq j k=false:=by
  cases V:Nat.beq j k with
  |false=>rfl
  |true=>exact absurd (t8 V) h
 simp [Po,this]
structure NE where
 slot:Nat
 ty:(Nat->OI)->Ty
 src:Option Nat
def ma(E:En)(ops:Array Oper)(aO:List OE)(need:ou)(o:Oper)(post:OI->List OE)(t:OI->Ty):Prop:=
 ∀a w S,oF w S->gm E.base E.B w S aO->cD E.N S a need->E.base<=w.heap.size->
  if Region.wanted o (yielded ops a.tmps)then NQ E.P o a w (fun a' w' => ∃v S' x,a' =a.put o.dst v/\mi (Kl aO) w S w' S' /\oF w' S' /\gm E.base E.B w' S' (post x)/\(t x).p S' v)
  else∃x,gm E.base E.B w S (post x)/\(t x).p S undef
def cG{need:ou}{t:OI->Ty}(Y:o.guard=none)(h:EffOK E aO need o post t):ma E ops aO need o post t:=fun a w S hs ho hf V=>by
 have:Region.wanted o (yielded ops a.tmps)=true:=by unfold Region.wanted;rw [Y]
 rw [this,bM rfl];exact h a w S hs ho hf V
def jp(es:List Bool)(i:Nat):Nat:=(es.take i).countP (· ==true)
def QY(L:List Oper)(es:List Bool):Bool:=(List.range es.length).all fun i=>(List.range i).all fun j=> !((es[i]?).getD false&&(es[j]?).getD false)||qJ L L.length i j
structure DJE(E:En)(G:ou)(l:List Oper)(ts:List (OI->Ty))(Om:Nat->(Nat->OI)->List OE)(es:List Bool)(done:Array Bool)(a:Act)(w:World)(S:SH)(σ:Nat->OI)(c:Nat):Prop where
 ext:mi E.B E.w0 E.S0 w S
 sat:oF w S
 own:gm E.base E.B w S (Om c σ)
 size:a.tmps.size=E.N.n
 defers:a.defers=E.N.ds
 dsz:done.size=l.length
 down: ∀j o,l[j]? =some o->done.getD j false=true-> ∀e∈o.after,Region.binds .any e=true->done.getD e.on false=true
 old: ∀k t,cX G k=some t->(∀j o,l[j]? =some o->done.getD j false=true->o.dst≠some k)->t.p S (a.tmps.getD k undef)
 new: ∀j o d f,l[j]? =some o->done.getD j false=true->o.dst=some d->ts[j]? =some f->(f (σ j)).p S (a.tmps.getD d undef)
 chain: ∀k,es[k]? =some true->(done.getD k false=true↔jp es k<c)
variable{es:List Bool}
def Iw: ∀{i j:Nat},i<j->es[i]? =some true->jp es i<jp es j:=by
 induction es with
 |nil=>intro i j _ h;simp at h
 |cons e es ih=>
  intro i j hij h
  cases j with
  |zero=>omega
  |succ j=>
   cases i with
   |zero=>simp at h;subst h;simp [jp]
   |succ i=>
    have:=ih (i:=i) (j:=j) (by omega) (by simpa using h);cases e<;>simp [jp]at this ⊢ <;>omega
def zZ: ∀{c k:Nat},c<jp es k-> ∃i,i<k/\es[i]? =some true/\jp es i=c:=by
 induction es with
 |nil=>intro c k h;simp [jp]at h
 |cons e es ih=>
  intro c k h
  cases k with
  |zero=>simp [jp]at h
  |succ k=>
   cases e with
   |false=>
    obtain⟨i,H,W,h3⟩:=ih (c:=c) (k:=k) (by simpa [jp] using h);exact⟨i+1,by omega,by simpa using W,by simpa [jp] using h3⟩
   |true=>
    cases c with
    |zero=>exact⟨0,by omega,rfl,by simp [jp]⟩
    |succ c=>
     obtain⟨i,H,W,h3⟩:=ih (c:=c) (k:=k) (by simp [jp]at h ⊢;omega);exact⟨i+1,by omega,by simpa using W,by simp [jp]at h3 ⊢;omega⟩
section
variable{ts:List (OI->Ty)}{Om:Nat->(Nat->OI)->List OE}
end
def ge0(n:Int):Option Unit:=if 0<=n then some ()else none
def Wg{n:Int}{u:Unit}(h:ge0 n=some u):0<=n:=by
 unfold ge0 at h;split at h
 ·assumption
 ·cases h
section
variable{ty:TypeId}
def Ka(D:E.P.underlying t=some (.slice e))(K:bk E.N G x (Q (.slice none 0 0))):dw E aO G ⟨dst,.call ⟨.builtin .len,#[x],#[t]⟩,ty,pos,after,g⟩ (tD (rI .i64) (0:Int)):=
 .of_pure fun a w S _ _ hf=>by
  have H:a.eval x= .slice none 0 0:=K S a hf;refine⟨.int .i64 0,?_,fH.2 rfl⟩;simp [execOp,resolve,invoke,builtin,Builtin.len_,mb D,H,goInt]
def Kb(D:E.P.underlying t=some (.slice e))(K:bk E.N G x (Q (.slice none 0 0))):dw E aO G ⟨dst,.call ⟨.builtin .cap,#[x],#[t]⟩,ty,pos,after,g⟩ (tD (rI .i64) (0:Int)):=
 .of_pure fun a w S _ _ hf=>by
  have H:a.eval x= .slice none 0 0:=K S a hf;refine⟨.int .i64 0,?_,fH.2 rfl⟩;simp [execOp,resolve,invoke,builtin,Builtin.cap_,mb D,H,goInt]
def NR{hi:Operand}(D:E.P.underlying t=some (.slice T))(ti:TI E.P T sz bytes agg z)(K:bk E.N G x (Q (.slice none 0 0)))(hhi:bk E.N G hi (tD (rI k) (0:Int))):
  dw E aO G ⟨dst,.slice t x none (some hi) none,ty,pos,after,g⟩ (Q (.slice none 0 0)):=
 .of_pure fun a w S _ _ hf=>by
  have H:a.eval x= .slice none 0 0:=K S a hf;have h6:=fH.1 (hhi S a hf);refine⟨.slice none 0 0,?_,rfl⟩;have V:=jn (P:=E.P) (w:=w) (k:=k) (n:=(0:Int)) (y:=0) (code:= .sliceAcap) (by omega) (by omega);simp [execOp,Instr.sliceAt,H,h6,Instr.slice,mb D,Instr.sliceBounds,V,jn (k:=k) (n:=(0:Int)) (y:=0) (by omega) (by omega),ti.sizeOf]
end
def zd{α:Type}(n:Int)(z:α):Option (List α):=if 0<=n/\n<=68719476736 then some (List.replicate n.toNat z)else none
def FC{n:Int}{z:α}(h:zd n z=some zs): ∃m:Nat,n=m/\m<=68719476736/\zs=List.replicate m z:=by
 unfold zd at h;split at h
 ·rename_i hc;exact⟨n.toNat,by omega,by omega,by simpa using h.symm⟩
 ·cases h
def BG{α:Type}{r:Rp α}{x:α}{z:List Value}(K: ∀S,r.rc S z x)(S:SH): ∀n:Nat,uI r S (List.replicate n z).flatten (List.replicate n x)
 |0=>rfl
 |n+1=>⟨z,_,by rw [List.replicate_succ,List.flatten_cons],K S,BG K S n⟩
def HB(z:List Value):(List.range z.length).map (fun i=>z[i%z.length]?.getD default)=z:=by
 apply List.ext_getElem?;intro k;rcases pj k z.length with h|h
 ·rw [MC,List.getElem?_range h];simp [Nat.mod_eq_of_lt h,h]
 ·rw [GT (by simpa using h),GT h]
def rL(z:List Value)(n:Nat):(Builtin.zeroCells z.toArray n).toList=(List.replicate n z).flatten:=by
 unfold Builtin.zeroCells;simp
 induction n with
 |zero=>simp
 |succ n ih=>
  rw [List.replicate_succ,List.flatten_cons,<-ih,Nat.succ_mul,Nat.add_comm,List.range_add,List.map_append,HB,List.map_map];congr 1;apply MD;intro i _;simp
def E7(z:List Value)(n sz:Nat)(h:z.length=sz):(madeCells z.toArray (n*sz)).toList=(List.replicate n z).flatten:=by
 subst h;have:=rL z n;unfold Builtin.zeroCells at this;unfold madeCells;simpa using this
section
variable{ty:TypeId}
def flat_len(h:z.length=sz)(n:Nat):(List.replicate n z).flatten.length=n*sz:=by
 simp [h]
def WS{x:α}{n:Int}{y y' :Operand}(ti:TI E.P T sz bytes agg z)(hsz:r.sz=sz)(hz:Nat.beq z.length sz=true)(h128:Nat.ble bytes 2048=true)(D:E.P.underlying t=some (.slice T))(K: ∀S,r.rc S z x)(hy:bk E.N G y (tD (rI k) n))(hy' :bk E.N G y' (tD (rI k') n))(h:zd n x=some zs):
  EffOK E aO G ⟨some d,.makeSlice t y y',ty,pos,after,g⟩ (fun i=>d5 r T (i.h 0).1 (i.h 0).2 zs::aO) (fun i=>Q (aI (i.h 0).1 (i.h 0).2 zs.length)):=fun a w S hs ho hf V=>by
 subst hsz;obtain⟨i,zv,hi,H,W,h3,h4⟩:=ti.get;obtain⟨m,rfl,hm,rfl⟩:=FC h;have hyv:=fH.1 (hy S a hf);have hyv' :=fH.1 (hy' S a hf);have hz2:z.length=r.sz:=t8 hz;have h128' :=vq h128;have hbytes:(i.bytes:Int)*(m:Int)<=281474976710656:=by
  have:i.bytes*m<=2048*68719476736:=Nat.mul_le_mul (by omega) hm;have h5:((i.bytes*m:Nat):Int)<=281474976710656:=by omega
  rwa [Int.natCast_mul]at h5
 have hr:=run_make (P:=E.P) w t T i zv D hi h3 k k' (m:Int) (m:Int) (by omega) (Int.le_refl _) hbytes (by omega);rw [Cb,H,h4]at hr;obtain⟨he,hs',hno⟩:=mH (w:=w) (.cells (madeCells z.toArray (m*r.sz)) T (0,0)) hs;have hrun:(execOp a.eval ⟨some d,.makeSlice t y y',ty,pos,after,g⟩).run E.P w= .ok (.value (.slice (some ⟨w.heap.size,0,none⟩) m m)) (w.alloc (.cells (madeCells z.toArray (m*r.sz)) T (0,0))):=by
  simp [execOp,hyv,hyv',hr]
 refine⟨fun c h=>(by cases h),?_⟩;rw [hrun];have hfl:=flat_len hz2 m;refine⟨_,S,oi (some w.heap.size) m,rfl,he.more fun _ V=>V.elim,hs',xL ho he (e:=d5 r T (some w.heap.size) m (List.replicate m x)) ⟨(List.replicate m z).flatten,⟨_,Ck w _,by simp,by simp only [maxLen];omega,by rw [size_madeCells],?_⟩,BG K S m,fun b V=>by rw [<-uK V];exact hno⟩ (fun b V=>Fu (uK V)) V,?_⟩
 ·rw [E7 z m r.sz hz2,MF];exact yi (by omega)
 ·show _=aI _ _ _;rw [MF];rfl
def OA{x:α}{n:Int}{bx y:Operand}{kn:IntKind}(ti:TI E.P T sz bytes agg z)(hsz:r.sz=sz)(hz:Nat.beq z.length sz=true)(h0:Nat.blt 0 sz=true)(h128:Nat.ble bytes 2048=true)(D:E.P.underlying t=some (.slice T))(ht' :E.P.underlying t' =some (.int kn))(K: ∀S,r.rc S z x)(hs' :bk E.N G bx (Q (.slice none 0 0)))(hy:bk E.N G y (tD (rI k) n))(hn:0<n)(h:zd n x=some zs):
  EffOK E aO G ⟨some d,.call ⟨.builtin .append,#[bx,y],#[t,t']⟩,ty,pos,after,g⟩ (fun i=>d5 r T (i.h 0).1 (i.h 0).2 zs::aO) (fun i=>Q (aI (i.h 0).1 (i.h 0).2 zs.length)):=fun a w S hs ho hf V=>by
 subst hsz;obtain⟨i,zv,hi,H,W,h3,h4⟩:=ti.get;obtain⟨m,rfl,hm,rfl⟩:=FC h;have hsv:a.eval bx= .slice none 0 0:=hs' S a hf;have hyv:=fH.1 (hy S a hf);have hz2:z.length=r.sz:=t8 hz;have h128' :=vq h128;have h0' :0<r.sz:=by simpa [ye] using h0
 have hbytes:m*i.bytes<=281474976710656:=by
  have:m*i.bytes<=68719476736*2048:=Nat.mul_le_mul hm (by omega);omega
 have hr:=Lib.run_append_nil_zeros (P:=E.P) w t t' ty T i zv k kn D ht' hi h3 m (by omega) (by omega) (by omega) hbytes;have hge:=grownCap_ge w m 0 T;have hle:=grownCap_le_maxLen w m 0 T (by simp only [maxLen];omega);generalize grownCap w m 0 T=cp at hr hge hle;obtain⟨C,hC⟩: ∃C,Builtin.zeroCells zv.cells m++Builtin.zeroCells zv.cells (cp-m)=C:=⟨_,rfl⟩;rw [hC]at hr;obtain⟨he0,hs0⟩:=Bw (w:=w) hs;obtain⟨he,hs2,hno⟩:=mH (w:=w.drew) (.cells C T (0,0)) hs0;have hx2:mi xM w S (w.drew.alloc (.cells C T (0,0))) S:=he0.trans he;have hrun:(execOp a.eval ⟨some d,.call ⟨.builtin .append,#[bx,y],#[t,t']⟩,ty,pos,after,g⟩).run E.P w= .ok (.value (.slice (some ⟨w.heap.size,0,none⟩) m cp)) (w.drew.alloc (.cells C T (0,0))):=by
  simp [execOp,resolve,invoke,builtin,hsv,hyv,hr]
 refine⟨fun c h=>(by cases h),?_⟩;rw [hrun];have hfl:=flat_len hz2 m;have hC1:C.toList=(List.replicate m z).flatten++(List.replicate (cp-m) z).flatten:=by
  rw [<-hC,Array.toList_append,h4,rL,rL]
 refine⟨_,S,oi (some w.heap.size) cp,rfl,hx2.more fun _ V=>V.elim,hs2,xL ho hx2 (e:=d5 r T (some w.heap.size) cp (List.replicate m x)) ⟨(List.replicate m z).flatten,⟨C,Ck w.drew _,by simpa using hge,hle,?_,?_⟩,BG K S m,fun b V=>by rw [<-uK V];exact hno⟩ (fun b V=>Fu (uK V)) V,?_⟩
 ·have:C.toList.length=cp*r.sz:=by
   rw [hC1,nY,hfl,flat_len hz2,<-Av];congr 1;omega
  simpa using this
 ·rw [hC1,MF,<-hfl,List.take_left]
 ·show _=aI _ _ _;rw [MF];rfl
def Uz{x:α}{y:Operand}(ti:TI E.P T sz bytes agg z)(hsz:r.sz=sz)(hz:Nat.beq z.length sz=true)(D:E.P.underlying t=some (.slice T))(K: ∀S,r.rc S z x)(hone:z.all (·.oneCell')=true)(hs:dr xs lo (xs.length:Int)=some ys)(hy:bk E.N G y (Q (qw sz l cap lo.toNat ys.length)))(hzs:xs.take lo.toNat++List.replicate ys.length x=zs)(k:RG E ops tV rest (d5 r T l cap zs::aO) G):
  RG E ops tV (⟨none,.call ⟨.builtin .clear,#[y],#[t]⟩,ty,pos,after,none⟩::rest) (d5 r T l cap xs::aO) G:= .of rfl fun a w S st=>by
 subst hsz;subst hzs;obtain⟨i,zv,hi,H,W,h3,h4⟩:=ti.get;have hyv:a.eval y=qw r.sz l cap lo.toNat ys.length:=hy S a st.facts;have hz2:z.length=r.sz:=t8 hz;obtain⟨lo',m,rfl,hm,h5,h6,rfl⟩:=gR hs;have hm' :m=xs.length:=by omega
 subst hm';rw [EK]at hyv k;rw [Cb]at hyv k;by_cases hnil:xs.drop lo' =[]
 ·have hlo:xs.length<=lo' :=zc.1 hnil;rw [hnil]at hyv k;have e1:xs.take lo' ++List.replicate ([]:List α).length x=xs:=by simp [yi hlo]
  rw [e1]at k;have hrun:(execOp a.eval ⟨none,.call ⟨.builtin .clear,#[y],#[t]⟩,ty,pos,after,none⟩).run E.P w= .ok (.value (.tuple #[])) w:=by
   cases l<;>simp [execOp,resolve,invoke,builtin,Builtin.clear_,mb D,hyv,qw]
  refine⟨fun c h=>(by cases h),?_⟩;rw [hrun];exact k _ _ S st
 ·obtain⟨⟨cells,hraw,hrc,hno⟩,hbase⟩:=st.own.1;have hlt:lo' <xs.length:=by
   rcases pj lo' xs.length with h|h
   ·exact h
   ·exact absurd (EO h) hnil
  cases l with
  |none=>have:=hraw.1;omega
  |some b=>
   obtain⟨cur,g1,g2,g3,g4,g5⟩:=hraw;have hno' :S b=none:=hno b rfl;have hne: ¬(cap=lo'):=by omega
   have hld:(xs.drop lo').length=xs.length-lo' :=by simp
   have hfl:=flat_len hz2 (xs.length-lo');have hones: ∀u∈(List.replicate (xs.length-lo') z).flatten,u.oneCell' =true:=by
    intro u hu;obtain⟨q,hq,hu⟩:=List.mem_flatten.1 hu;rw [(List.mem_replicate.1 hq).2]at hu;exact mI.1 hone u hu
   have hmul:xs.length*r.sz<=cur.size:=by rw [g4];exact Dr _ g2
   have hfit:lo' *r.sz+(xs.length-lo')*r.sz=xs.length*r.sz:=by rw [<-Av];congr 1;omega
   have hst:=run_storeCells_at E.P b (lo' *r.sz) T (List.replicate (xs.length-lo') z).flatten 0 cur w g1 (by omega) hones;simp only [Du]at hst;have hrun:(execOp a.eval ⟨none,.call ⟨.builtin .clear,#[y],#[t]⟩,ty,pos,after,none⟩).run E.P w= .ok (.value (.tuple #[])) (w.setRow b (cur.toList.take (lo' *r.sz)++(List.replicate (xs.length-lo') z).flatten++cur.toList.drop (lo' *r.sz+(List.replicate (xs.length-lo') z).flatten.length)).toArray):=by
    have e1: ∃q,xs.length-lo' =q+1:=⟨xs.length-lo' -1,by omega⟩;obtain⟨q,hq⟩:=e1;have e2:a.eval y= .slice (some ⟨b,lo' *r.sz,none⟩) (q+1) (cap-lo'):=by rw [hyv,hld,hq];simp [qw,hne]
    rw [hq]at hst ⊢;simp [execOp,resolve,invoke,builtin,Builtin.clear_,mb D,e2,zeroValue,typeInfo,hi,h3,h4,rL,hst]
   refine⟨fun c h=>(by cases h),?_⟩;rw [hrun];have hset:=setRow_heap w b cur (cur.toList.take (lo' *r.sz)++(List.replicate (xs.length-lo') z).flatten++cur.toList.drop (lo' *r.sz+(List.replicate (xs.length-lo') z).flatten.length)).toArray T _ g1;have hl2:(xs.take lo' ++List.replicate (xs.drop lo').length x).length=xs.length:=by simp;omega
   have hsp:uI r S (cells.take (lo' *r.sz)) (xs.take lo'):=by
    have e:xs=xs.take lo' ++xs.drop lo' :=(vX _ _).symm;rw [e]at hrc;have:=(tI hrc).1
    rwa [show(xs.take lo').length=lo' from by simp;omega]at this
   have hcl:((cur.toList.take (lo' *r.sz)++(List.replicate (xs.length-lo') z).flatten++cur.toList.drop (lo' *r.sz+(List.replicate (xs.length-lo') z).flatten.length)).toArray).toList.take ((xs.take lo' ++List.replicate (xs.drop lo').length x).length*r.sz)=cells.take (lo' *r.sz)++(List.replicate (xs.length-lo') z).flatten:=by
    rw [hl2,<-g5,CJ,Aw (Dr _ (by omega))];have hlen1:(cur.toList.take (lo' *r.sz)++(List.replicate (xs.length-lo') z).flatten).length=xs.length*r.sz:=by
     rw [nY,hfl,Ca,Fz,Aw (by omega)];exact hfit
    rw [<-hlen1,List.take_left]
   obtain⟨q1,q2,q3⟩:=qm (aO:=aO) st.sat (d5 r T (some b) cap xs) (d5 r T (some b) cap (xs.take lo' ++List.replicate (xs.drop lo').length x)) st.own (fun k=>⟨fun h=>(uK h).symm,fun h=>by rw [h];rfl⟩) (fun k=>⟨fun h=>(uK h).symm,fun h=>by rw [h];rfl⟩)
    (w' :=w.setRow b (cur.toList.take (lo' *r.sz)++(List.replicate (xs.length-lo') z).flatten++cur.toList.drop (lo' *r.sz+(List.replicate (xs.length-lo') z).flatten.length)).toArray) ⟨rfl,rfl,rfl,by simp [World.setRow],kE _⟩ (fun k hk=>setRow_other w b k _ hk)
    ⟨cells.take (lo' *r.sz)++(List.replicate (xs.length-lo') z).flatten,⟨_,hset,by rw [hl2];exact g2,g3,by simp only [Jz,nY,Ca,Ao,Fz];omega,hcl⟩,by rw [hld];exact uU hsp (BG K S _),fun k hk=>by rw [<-uK hk];exact hno'⟩ hno'
   ·exact k _ _ S ⟨st.ext.step q1 (fun c hc=>hbase c (by rw [hc];rfl)),q2,q3,st.facts⟩
end
def pP{α:Type}(r:Rp α)(n:Nat):Rp (List α) where
 sz:=n*r.sz
 agg:=true
 rc:=fun S cs xs=>xs.length=n/\uI r S cs xs
 mono:=fun h ⟨H,W⟩=>⟨H,vA h W⟩
 len:=fun⟨H,W⟩=>by rw [mv W,H]
 one:=fun⟨_,W⟩=>BH W
 sc:=fun h=>by cases h
section
section
variable{ty:TypeId}
def Cx{i:Int}(D:E.P.underlying t=some (.array n e))(ti:TI E.P e sz bytes agg z)(hsz:r.sz=sz)(K:bk E.N G x (da (pP r n) xs))(hi:bk E.N G ix (tD (rI k) i))(hy:gw xs i=some y):
  dw E aO G ⟨dst,.indexAddr t x ix,ty,pos,after,g⟩ (da r y):=
 .of_pure fun a w S _ _ hf=>by
  subst hsz;obtain⟨b,off,c,T,fr,H,W,h3,h4⟩:=K S a hf;have h5:a.eval ix= .int k i:=fH.1 (hi S a hf);obtain⟨h0,hy'⟩:=pQ hy;have hlt:i.toNat<xs.length:=(vK.1 hy').1;have hc:0<=i/\i<(n:Int):=⟨h0,by omega⟩;refine⟨.pointer (some ⟨b,off+i.toNat*r.sz,none⟩),?_,b,_,c,T,fr,rfl,W,?_⟩
  ·simp [execOp,H,h5,Instr.indexAt,asIntOf,mb D,Instr.sureAddr,hc,ti.sizeOf,kL]
  ·have h6:=DW h4 hy';rw [Cl,CJ,uH]at h6;have hmul:i.toNat*r.sz+r.sz<=n*r.sz:=by rw [<-Nat.succ_mul];exact Dr _ (by omega)
   have hmin:min r.sz ((pP r n).sz-i.toNat*r.sz)=r.sz:=by
    show min r.sz (n*r.sz-i.toNat*r.sz)=r.sz;omega
   rwa [hmin]at h6
def ld{i:Int}(D:E.P.underlying t=some (.array n e))(ti:TI E.P e sz bytes agg z)(hm:s (pP r n) T b xs∈aO)(K:bk E.N G x (Q (M b 0)))(hi:bk E.N G ix (tD (rI k) i))(hy:gw xs i=some y):
  dw E aO G ⟨dst,.indexAddr t x ix,ty,pos,after,g⟩ (Q (M b (i.toNat*sz))):=
 .of_pure fun a w S _ ho hf=>by
  have H:a.eval x=M b 0:=K S a hf;have h5:a.eval ix= .int k i:=fH.1 (hi S a hf);obtain⟨⟨_,c,_,h4,_⟩,_⟩:=ho.mem _ hm;obtain⟨h0,hy'⟩:=pQ hy;have hlt:i.toNat<xs.length:=(vK.1 hy').1;have hc:0<=i/\i<(n:Int):=⟨h0,by omega⟩;refine⟨_,?_,rfl⟩;simp [execOp,H,h5,M,Instr.indexAt,asIntOf,mb D,Instr.sureAddr,hc,ti.sizeOf,kL]
end
def YD{i:Int}(hy:gw xs i=some y){cs:List Value}(h:(pP r n).rc S cs xs):r.rc S ((cs.drop (i.toNat*r.sz)).take r.sz) y:=DW h.2 (pQ hy).2
def D6{i:Int}{p:Operand}{ty:TypeId}(ti:TI E.P U sz bytes agg z)(hsz:r.sz=sz)(hag:r.agg=agg)(hm:s (pP r n) T b xs∈aO)(hy:gw xs i=some y)(hp:bk E.N G p (Q (M b (i.toNat*r.sz)))):dw E aO G ⟨dst,.load U p,ty,pos,after,g⟩ (tD r y):=
 .of_pure fun a w S _ ho hf=>by
  have H:a.eval p=M b (i.toNat*r.sz):=hp S a hf;obtain⟨⟨_,cur,h5,h6⟩,_⟩:=ho.mem _ hm;have h7:=YD hy h6;refine⟨_,?_,_,rfl,h7⟩;simp [execOp,H,M,Instr.loadAt,Instr.sureAddr,lq ti h5 hsz hag h7]
def B1{v:α}{i:Int}{p:Operand}{ty:TypeId}(ti:TI E.P U sz bytes agg z)(hsz:r.sz=sz)(hy:gw xs i=some y)(hz:xs.set i.toNat v=zs)(hp:bk E.N G p (Q (M b (i.toNat*r.sz))))(hv:bk E.N G x (tD r v))(k:RG E ops tV rest (s (pP r n) T b zs::aO) G):RG E ops tV (⟨none,.store U p x,ty,pos,after,none⟩::rest) (s (pP r n) T b xs::aO) G:= .of rfl fun a w S st=>by
 subst hz;have H:a.eval p=M b (i.toNat*r.sz):=hp S a st.facts;obtain⟨ds,W,h3⟩:=hv S a st.facts;obtain⟨⟨hno,cur,h5,h6⟩,_⟩:=st.own.1;obtain⟨h0,hy'⟩:=pQ hy;have hlt:i.toNat<xs.length:=(vK.1 hy').1;have hl:=mv h6.2;simp only [Fz]at hl;have hmul:i.toNat*r.sz+r.sz<=xs.length*r.sz:=by rw [<-Nat.succ_mul];exact Dr _ hlt
 obtain⟨w',hr,e1,e2,e3,e4,e5,e6⟩:=lQ ti hsz h3 h5 (off:=i.toNat*r.sz) (by omega);have hrun:(execOp a.eval ⟨none,.store U p x,ty,pos,after,none⟩).run E.P w= .ok .skip w' :=by
  simp [execOp,H,W,Instr.storeAt,M,Instr.sureAddr,hr]
 refine⟨fun c h=>(by cases h),?_⟩;rw [hrun];obtain⟨g1,g2,g3⟩:=qm (aO:=aO) st.sat (s (pP r n) T b xs) (s (pP r n) T b (xs.set i.toNat v)) st.own (fun _=>qW) (fun _=>qW) ⟨e1,e2,e3,e4.1,e4.2⟩ e6 ⟨hno,_,e5,by rw [F3];exact h6.1,Gw h3 h6.2 hlt⟩ hno;exact k _ _ S ⟨st.ext.step g1 (fun c hc=>st.own.1.2 c hc),g2,g3,st.facts⟩
end
def Ct{α:Type}{r:Rp α}{c:Value}{x:α}(h: ∀S,r.rc S [c] x)(S:SH): ∀n,uI r S (List.replicate n c) (List.replicate n x)
 |0=>rfl
 |n+1=>⟨[c],_,rfl,h S,Ct h S n⟩
def Br{c:Value}{x:α}(n:Nat)(h: ∀S,r.rc S [c] x): ∀S,(pP r n).rc S (List.replicate n c) (List.replicate n x):=fun S=>⟨MF,Ct h S n⟩
def abD(n:Nat):Option Unit:=if n<=68719476736 then some ()else none
def gt0(n:Int):Option Unit:=if 0<n then some ()else none
def We{n:Int}{u:Unit}(h:gt0 n=some u):0<n:=by
 unfold gt0 at h;split at h
 ·assumption
 ·cases h
def XA{e:Exit}(mm:Bool)(r:Rp α)(T:TypeId)(h:AT E tV e (o5 mm r T none 0 []::aO) G):AT E tV e aO G:=fun a w S st=>h a w S (st.fresh mm r T)
def Kv{x:α}(h:dr xs lo (xs.length:Int)=some ys)(hz:xs.take lo.toNat++List.replicate ys.length x=zs):zs.length=xs.length:=by
 obtain⟨l,m,rfl,hm,H,W,rfl⟩:=gR h;have hm' :m=xs.length:=by omega
 subst hm';rw [<-hz];simp;omega
def tC(n:FuncId)(cts:List Ty):Ty where
 p:=fun S v=> ∃cap:List Value,v= .func (.func n) #[] cap.toArray/\Au S cts cap
 mono:=fun h ⟨cap,e,k⟩=>⟨cap,e,Au.mono h k⟩
section
section
variable{ty:TypeId}
def yM{fid:FuncId}{caps:List Operand}{cts:List Ty}(hcap:nD E.N G caps cts):dw E aO G ⟨dst,.makeFunc (.func fid) #[] caps.toArray,ty,pos,after,g⟩ (tC fid cts):=
 .of_pure fun a w S _ _ hf=>⟨.func (.func fid) #[] (caps.map a.eval).toArray,by simp [execOp,Instr.makeFunc],_,rfl,hcap.tys hf⟩
end
def wD{n:FuncId}{cts:List Ty}{ty:TypeId}{fo:Operand}{xs:List Operand}(O1 Or:List OE){t:OI->Ty}{O2:OI->List OE}(hO:aO=O1++Or)(hc:aj E.P n=true)(hs:bU E.P n (ts++cts) O1 t O2)(hf:bk E.N G fo (tC n cts))(K:nD E.N G xs ts)(hpost: ∀i,O2 i++Or=post i):
  EffOK E aO G ⟨some d,.call ⟨.value fo,xs.toArray,ats⟩,ty,pos,after,g⟩ post t:=fun a w S hsat ho hF V=>by
 subst hO;obtain rfl:(fun i=>O2 i++Or)=post:=funext hpost;obtain⟨cap,e,hcap⟩:=hf S a hF;have hr:(execOp a.eval ⟨some d,.call ⟨.value fo,xs.toArray,ats⟩,ty,pos,after,g⟩).run E.P w= .ok (.enter n ((xs.map a.eval).toArray++cap.toArray)) w:=by
  simp [execOp,resolve,e,Deferred.ofValue,invoke,k7 hc]
 refine⟨fun c h=>(by cases h),?_⟩;rw [hr];have e2:(xs.map a.eval).toArray++cap.toArray=((xs.map a.eval)++cap).toArray:=by simp
 rw [e2];exact(hs w S _ hsat ((K.tys hF).append hcap) (tX ho).1.weak).mono fun en w' ⟨i,v,S',he,hv,H,W,h3,h4⟩=>⟨_,he,v,S',i,rfl,H.more fun b ⟨f,hf,V⟩=>⟨f,GS _ hf,V⟩,W,gm.turn ho V H h3 h4,hv⟩
end
def Jk{α:Type}(xs:List α)(lo:Int)(n:Nat)(i:Int):Option α:=if 0<=i/\i<(n:Int)then gw xs (lo+i)else none
def BX{i:Int}(h:Jk xs lo n i=some y):0<=i/\i<(n:Int)/\gw xs (lo+i)=some y:=by
 unfold Jk at h;split at h
 ·rename_i hc;exact⟨hc.1,hc.2,h⟩
 ·cases h
def EW(h:dr xs lo hi=some ys):0<=lo:=by
 obtain⟨l,m,rfl,_,_,_,_⟩:=gR h;omega
section
def uD(hm:o5 mm r T l cap xs∈aO)(hs:dr xs lo hi=some ys)(h:(l=none->ys.length=0)/\ys.length<=maxLen->RG E ops tV rest aO G):RG E ops tV rest aO G:=fun a w S st=>by
 refine h ?_ a w S st;obtain⟨cells,H,_⟩:=(st.own.mem _ hm).1;obtain⟨l',m,_,_,_,h8,rfl⟩:=gR hs;have hlen:((xs.take m).drop l').length<=xs.length:=by simp;omega
 cases l with
 |none=>have:=H.1;exact⟨fun _=>by omega,by omega⟩
 |some b=>obtain⟨cur,_,g2,g3,_⟩:=H;exact⟨fun h=>(by cases h),by omega⟩
section
variable{ty:TypeId}
def RO{lo:Nat}(D:E.P.underlying t=some (.slice e))(hv:l=none->n=0)(K:bk E.N G x (Q (qw sz l cap lo n))):
  dw E aO G ⟨dst,.call ⟨.builtin .len,#[x],#[t]⟩,ty,pos,after,g⟩ (tD (rI .i64) (n:Int)):=
 .of_pure fun a w S _ ho hf=>by
  have H:a.eval x=qw sz l cap lo n:=K S a hf;obtain⟨ad,c,h3⟩: ∃ad c,qw sz l cap lo n= .slice ad n c:=by
   cases l with
   |none=>rw [hv rfl];exact⟨none,0,rfl⟩
   |some b=>exact⟨_,_,rfl⟩
  refine⟨.int .i64 n,?_,fH.2 rfl⟩;simp [execOp,resolve,invoke,builtin,Builtin.len_,mb D,H,h3,goInt]
def yr{i:Int}(D:E.P.underlying t=some (.slice e))(ti:TI E.P e sz bytes agg z)(hsz:r.sz=sz)(hm:o5 mm r U l cap xs∈aO)(hl0:0<=lo)(K:bk E.N G x (Q (qw sz l cap lo.toNat n)))(hi' :bk E.N G ix (tD (rI k) i))(hy:Jk xs lo n i=some y):
  dw E aO G ⟨dst,.indexAddr t x ix,ty,pos,after,g⟩ (Q (Dd l ((lo+i).toNat*sz+0))):=
 .of_pure fun a w S _ ho hf=>by
  subst hsz;have H:a.eval x=qw r.sz l cap lo.toNat n:=K S a hf;have h3:a.eval ix= .int k i:=fH.1 (hi' S a hf);obtain⟨hi0,hin,hxi⟩:=BX hy;obtain⟨_,hx'⟩:=pQ hxi;obtain⟨b,cur,rfl,_,hle,_⟩:=AY (ho.mem _ hm).1 hx';have hlt2:(lo+i).toNat<xs.length:=(vK.1 hx').1;have hne: ¬(cap=lo.toNat):=by omega
  refine⟨_,?_,rfl⟩;have hc:0<=i/\i<(n:Int):=⟨hi0,hin⟩;have e1:(lo+i).toNat=lo.toNat+i.toNat:=by omega
  simp [execOp,H,h3,qw,hne,Instr.indexAt,asIntOf,mb D,hc,ti.sizeOf,kL,Dd,M,e1,Av]
end
end
section
variable{ty:TypeId}{l:List Oper}
end
def og3 [Inhabited α]{c b:Bool}{x:Option α}{k:α->Option β}{d:Option β}{r:β}(h:c=true->(if b=true then x.bind k else d)=some r): ∃y,((c&&b)=true->x=some y/\k y=some r)/\(c=true->b=false->d=some r):=by
 cases c with
 |false=>exact⟨default,fun e=>(by cases e),fun e=>(by cases e)⟩
 |true=>
  obtain⟨y,H,W⟩:=og (h rfl);exact⟨y,fun e=>H e,fun _ e=>W e⟩
def C5{κ β:Type} [DecidableEq κ]:List (κ×β)->κ->Option β
 |[],_=>none
 |p::m,k=>if p.1=k then some p.2 else C5 m k
def vP{κ β:Type} [DecidableEq κ]:List (κ×β)->κ->β->List (κ×β)
 |[],k,v=>[(k,v)]
 |p::m,k,v=>if p.1=k then(k,v)::m else p::vP m k v
def SQ{κ:Type}(P:Program)(kt:TypeId)(kv:κ->Value):Prop:= ∃d,P.underlying kt=some d/\(∀a,MapKept.IsKey d (kv a))/\ ∀a b,kv a=kv b->a=b
def kvI(k:IntKind)(n:Int):Value:= .int k n
def s6{kt:TypeId}(h:P.underlying kt=some (.int k)):SQ P kt (kvI k):=⟨_,h,fun _=>rfl,fun a b e=>by injection e⟩
structure MV(β:Type) where
 p:World->SH->β->Option Nat×Nat->Value->Prop
 here: ∀{w S y o v},p w S y o v-> ∀j,o.1=some j->j<w.heap.size
 kept: ∀{C w w' S S' y o v},p w S y o v->mi C w S w' S' ->(∀j,o.1=some j-> ¬C j)->p w' S' y o v
def XD{β:Type}(ty:β->Ty):MV β where
 p:=fun _ S y o v=>o.1=none/\(ty y).p S v
 here:=fun h j hj=>by rw [h.1]at hj;cases hj
 kept:=fun h k _=>⟨h.1,(ty _).mono k.keep h.2⟩
section
variable{κ:Type} [DecidableEq κ]{hb:MV β}{kv:κ->Value}{d:TypeDesc}{k:κ}
def As(hb:MV β)(kv:κ->Value)(w:World)(S:SH)(h:Option κ):List MapEntry->List (Option Nat×Nat)->List (κ×β)->Prop
 |[],[],[]=>True
 |e::es,o::os,q::m=>e.key=kv q.1/\(if h=some q.1 then o.1=none else hb.p w S q.2 o e.val)/\(∀o' ∈os,∀j,o.1=some j->o'.1≠some j)/\(∀p∈m,p.1≠q.1)/\As hb kv w S h es os m
 |_,_,_=>False
def Kq{h:Option κ}: ∀{es:List MapEntry} {os:List (Option Nat×Nat)} {m:List (κ×β)},As hb kv w S h es os m-> ∀o∈os,∀j,o.1=some j->j<w.heap.size
 |[],[],[],_,o,ho,_,_=>by cases ho
 |e::es,o::os,q::m,⟨_,W,_,_,h5⟩,o',ho,j,hj=>by
  rcases ll.1 ho with rfl|ho
  ·split at W
   ·rw [W]at hj;cases hj
   ·exact hb.here W j hj
  ·exact Kq h5 o' ho j hj
def Ev{C:Nat->Prop}(k:mi C w S w' S'){h:Option κ}: ∀{es:List MapEntry} {os:List (Option Nat×Nat)} {m:List (κ×β)},As hb kv w S h es os m->(∀o∈os,∀j,o.1=some j-> ¬C j)->As hb kv w' S' h es os m
 |[],[],[],_,_=>trivial
 |e::es,o::os,q::m,⟨H,W,h3,h4,h5⟩,hC=>⟨H,by
  split
  ·rename_i hh;rw [bM hh]at W;exact W
  ·rename_i hh;rw [bB hh]at W;exact hb.kept W k (hC o (jO ..)),h3,h4,Ev k h5 fun o' ho=>hC o' (kX _ ho)⟩
def FR{h:Option κ}: ∀{es:List MapEntry} {os:List (Option Nat×Nat)} {m:List (κ×β)},As hb kv w S h es os m->(∀p∈m,h≠some p.1)->As hb kv w S none es os m
 |[],[],[],_,_=>trivial
 |e::es,o::os,q::m,⟨H,W,h3,h4,h5⟩,hk=>⟨H,by
  rw [bB (hk q (jO ..))]at W;rw [bB (by simp)];exact W,h3,h4,FR h5 fun p hp=>hk p (kX _ hp)⟩
def wh(hd: ∀a,MapKept.IsKey d (kv a))(hi: ∀a b,kv a=kv b->a=b)(a b:κ):Instr.sameNow d (kv a) (kv b)=some (decide (a=b)):=by
 obtain⟨r,H,W⟩:=MapKept.sameNow_of_keys (hd a) (hd b);rw [H];by_cases h:a=b
 ·subst h;rw [W.2 rfl];simp
 ·rw [yh h]
  cases r with
  |false=>rfl
  |true=>exact absurd (hi _ _ (W.1 rfl)) h
def De(hd: ∀a,MapKept.IsKey d (kv a))(hi: ∀a b,kv a=kv b->a=b): ∀{es:List MapEntry} {os:List (Option Nat×Nat)} {m:List (κ×β)} (i:Nat),As hb kv w S none es os m->
  ∃os',(∀x∈os',x∈os\/x.1=none)/\As hb kv w S (some k) es os' m/\
   ((C5 m k=none/\Instr.findNow d (kv k) es i=some none)\/ ∃(y:β) (o:Option Nat×Nat) (e:MapEntry) (j:Nat),C5 m k=some y/\o∈os/\hb.p w S y o e.val/\Instr.findNow d (kv k) es i=some (some (j,e.val))/\ ∀x∈os',∀q,o.1=some q->x.1≠some q)
 |[],[],[],i,_=>⟨[],fun x K=>(by cases K),trivial,.inl ⟨rfl,rfl⟩⟩
 |e::es,o::os,q::m,i,⟨H,W,h3,h4,h5⟩=>by
  rw [bB (by simp)]at W;by_cases hk:q.1=k
  ·refine⟨(none,0)::os,fun x K=>?_,⟨H,by rw [bM (by rw [hk])],fun _ _ _ hj=>(by cases hj),h4,?_⟩,.inr ⟨q.2,o,e,i,by unfold C5;rw [bM hk],jO ..,W,?_,fun x K j hj=>?_⟩⟩
   ·rcases ll.1 K with rfl|K
    ·exact .inr rfl
    ·exact .inl (kX _ K)
   ·have: ∀{es:List MapEntry} {os:List (Option Nat×Nat)} {m:List (κ×β)},As hb kv w S none es os m->(∀p∈m,p.1≠k)->As hb kv w S (some k) es os m:=by
     intro es
     induction es with
     |nil=>intro os m h _;cases os<;>cases m<;>first|trivial|exact h.elim
     |cons e es ih=>
      intro os m h hm
      cases os with
      |nil=>cases m<;>exact h.elim
      |cons o os=>
       cases m with
       |nil=>exact h.elim
       |cons q m=>
        obtain⟨g1,g2,g3,g4,g5⟩:=h;rw [bB (by simp)]at g2;exact⟨g1,by rw [bB (fun e=>hm q (jO ..) (uK e).symm)];exact g2,g3,g4,ih g5 fun p hp=>hm p (kX _ hp)⟩
    exact this h5 (fun p hp=>by rw [<-hk];exact h4 p hp)
   ·unfold Instr.findNow;rw [H,wh hd hi,hk,Fx rfl]
   ·rcases ll.1 K with rfl|K
    ·exact fun e=>by cases e
    ·exact h3 x K j hj
  ·obtain⟨os',g1,g2,g3⟩:=De hd hi (i+1) h5;refine⟨o::os',fun x K=>?_,⟨H,by rw [bB (fun e=>hk (uK e).symm)];exact W,fun o' ho' j hj=>?_,h4,g2⟩,?_⟩
   ·rcases ll.1 K with rfl|K
    ·exact .inl (jO ..)
    ·exact(g1 x K).imp (kX _) id
   ·rcases g1 o' ho' with h|h
    ·exact h3 o' h j hj
    ·rw [h];exact fun e=>by cases e
   ·have hf:Instr.findNow d (kv k) (e::es) i=Instr.findNow d (kv k) es (i+1):=by
     conv=>lhs;unfold Instr.findNow
     rw [H,wh hd hi,yh (fun e=>hk e.symm)]
    have hm:C5 (q::m) k=C5 m k:=by conv=>lhs;unfold C5;rw [bB hk]
    rw [hf,hm];refine g3.imp id fun⟨y,o1,e1,j,f1,f2,f3,f4,f5⟩=>⟨y,o1,e1,j,f1,kX _ f2,f3,f4,fun x K q hq=>?_⟩;rcases ll.1 K with rfl|K
    ·exact fun e=>h3 o1 f2 q e hq
    ·exact f5 x K q hq
def N0(x:α)(xs:List α)(j:Nat)(f:α->α):(x::xs).modify (j+1) f=x::xs.modify j f:=by simp [List.modify_succ_cons]
def Kr(hd: ∀a,MapKept.IsKey d (kv a))(hi: ∀a b,kv a=kv b->a=b){y:β}{o:Option Nat×Nat}{v:Value}{born:Nat}(hv:hb.p w S y o v): ∀{es:List MapEntry} {os:List (Option Nat×Nat)} {m:List (κ×β)} (i:Nat),As hb kv w S (some k) es os m->(∀o' ∈os,∀j,o.1=some j->o'.1≠some j)->
    ∃os',(∀x∈os',x∈os\/x=o)/\
      ((∃(j:Nat) (e:MapEntry),Instr.findNow d (kv k) es i=some (some (i+j,e.val))/\es[j]? =some e/\e.key=kv k/\As hb kv w S none (es.modify j fun e=>{e with key:=kv k,val:=v}) os' (vP m k y))\/
        (Instr.findNow d (kv k) es i=some none/\As hb kv w S none (es++[⟨kv k,v,born⟩]) os' (vP m k y)))
  |[],[],[],i,_,_=>⟨[o],fun x K=> .inr (EN.1 K),.inr ⟨rfl,⟨rfl,by rw [bB (by simp)];exact hv,fun _ h=>(by cases h),fun _ h=>(by cases h),trivial⟩⟩⟩
  |e::es,o1::os,q::m,i,⟨H,W,h3,h4,h5⟩,ha=>by
    by_cases hk:q.1=k
    · refine⟨o::os,fun x K=>?_,.inl ⟨0,e,?_,rfl,by rw [H,hk],?_⟩⟩
      · rcases ll.1 K with rfl|K
        · exact .inr rfl
        · exact .inl (kX _ K)
      · unfold Instr.findNow;rw [H,wh hd hi,hk,Fx rfl];rfl
      · unfold vP;rw [bM hk,List.modify_zero_cons];exact⟨rfl,by rw [bB (by simp)];exact hv,fun o' ho' =>ha o' (kX _ ho'),fun p hp=>by rw [<-hk];exact h4 p hp,
          FR h5 fun p hp e=>h4 p hp (by rw [hk];exact(uK e).symm)⟩
    · obtain⟨os',g1,g2⟩:=Kr hd hi (born:=born) hv (i+1) h5 fun o' ho' =>ha o' (kX _ ho');rw [bB (fun e=>hk (uK e).symm)]at W;have hf:Instr.findNow d (kv k) (e::es) i=Instr.findNow d (kv k) es (i+1):=by
        conv=>lhs;unfold Instr.findNow
        rw [H,wh hd hi,yh (fun e=>hk e.symm)]
      have hm:vP (q::m) k y=q::vP m k y:=by conv=>lhs;unfold vP;rw [bB hk]
      have hap: ∀o' ∈os',∀j,o1.1=some j->o'.1≠some j:=fun o' ho' j hj=>by
        rcases g1 o' ho' with h|rfl
        · exact h3 o' h j hj
        · exact fun e=>ha o1 (jO ..) j e hj
      have hne: ∀p∈vP m k y,p.1≠q.1:=by
        have: ∀m:List (κ×β),(∀p∈m,p.1≠q.1)-> ∀p∈vP m k y,p.1≠q.1:=by
          intro m
          induction m with
          |nil=>intro _ p hp;rw [EN.1 hp];exact fun e=>hk e.symm
          |cons p0 m ih=>
            intro hm p hp;unfold vP at hp;split at hp
            · rcases ll.1 hp with rfl|hp
              · exact fun e=>hk e.symm
              · exact hm p (kX _ hp)
            · rcases ll.1 hp with rfl|hp
              · exact hm _ (jO ..)
              · exact ih (fun p hp=>hm p (kX _ hp)) p hp
        exact this m h4
      rw [hf,hm];refine⟨o1::os',fun x K=>?_,g2.imp (fun⟨j,e',f1,f2,f3,f4⟩=>⟨j+1,e',by rw [f1];congr 3;omega,by simpa using f2,f3,?_⟩) fun⟨f1,f2⟩=>⟨f1,?_⟩⟩
      · rcases ll.1 K with rfl|K
        · exact .inl (jO ..)
        · exact(g1 x K).imp (kX _) id
      · rw [N0];exact⟨H,by rw [bB (by simp)];exact W,hap,hne,f4⟩
      · exact⟨H,by rw [bB (by simp)];exact W,hap,hne,f2⟩
def Kp{h:Option κ}: ∀{es:List MapEntry} {os:List (Option Nat×Nat)} {m:List (κ×β)},As hb kv w S h es os m-> ∀x∈es,∃q∈m,x.key=kv q.1
 |[],[],[],_,x,K=>by cases K
 |e::es,o::os,q::m,⟨H,_,_,_,h5⟩,x,K=>by
  rcases ll.1 K with rfl|K
  ·exact⟨q,jO ..,H⟩
  ·obtain⟨q',g1,g2⟩:=Kp h5 x K;exact⟨q',kX _ g1,g2⟩
def Uh(hd: ∀a,MapKept.IsKey d (kv a)){h:Option κ}{es:List MapEntry}{os:List (Option Nat×Nat)}{m:List (κ×β)}(h4:As hb kv w S h es os m)(g1:Instr.findNow d (kv k) es i=some none){x:MapEntry}(K:x∈es):x.key≠kv k:=by
 rcases MapKept.findNow_spec (hd k) es i (fun y hy=>by obtain⟨q,_,e⟩:=Kp h4 y hy;rw [e];exact hd _)with⟨_,W⟩|⟨j,e,W,_⟩
 ·exact W x K
 ·rw [g1]at W;cases W
def HQ(hb:MV β)(kv:κ->Value)(b:Nat)(h:Option κ)(os:List (Option Nat×Nat))(m:List (κ×β)):OE where
 fp:=fun j=>j=b\/ ∃o∈os,o.1=some j
 p:=fun w S=>S b=none/\(∀o∈os,o.1≠some b)/\ ∃es clock,w.heap[b]? =some (.map es clock)/\As hb kv w S h es.toList os m/\MapKept.Stamped es clock
 here:=by
  intro w S ⟨_,_,es,clock,h3,h4,_⟩ j hj;rcases hj with rfl|⟨o,ho,hj⟩
  ·exact(KL.1 h3).1
  ·exact Kq h4 o ho j hj
 kept:=by
  intro C w w' S S' ⟨H,W,es,clock,h3,h4,hst⟩ k hC;have hlt:=(KL.1 h3).1;exact⟨by rw [k.old b hlt (hC b (.inl rfl))];exact H,W,es,clock,by rw [k.heap b hlt (hC b (.inl rfl))];exact h3,Ev k h4 (fun o ho j hj=>hC j (.inr ⟨o,ho,hj⟩)),hst⟩
def A7(b:Nat):Value:= .map (some b)
end
section
variable{κ:Type} [DecidableEq κ]{hb:MV β}{kv:κ->Value}{os:List (Option Nat×Nat)}{m:List (κ×β)}{k:κ}{kt et:TypeId}{i v:Operand}{dst:Option Nat}{ty:TypeId}
def Xv(N:Fr)(G:ou)(x:Operand)(u:Value):Prop:= ∀S a,cD N S a G->a.eval x=u
def Gh{N:Fr}{q:IntKind}{n:Int}(h:bk N G x (tD (rI q) n)):Xv N G x (kvI q n):=fun S a hf=>fH.1 (h S a hf)
def ZV(P:Program)(T:TypeId)(z:Value):Prop:=(P.info? T).bind (·.zero)=some z
def ZV.run{z:Value}(h:ZV P T z)(w:World):(zeroValue T).run P w= .ok z w:=by
 unfold ZV at h
 cases hi:P.info? T with
 |none=>rw [hi]at h;cases h
 |some i=>
  rw [hi]at h;have h' :i.zero=some z:=h;simp [zeroValue,typeInfo,hi,h']
def Ra(hb:MV β)(kv:κ->Value)(hd:Nat.blt d E.N.n=true)(k: ∀b,RG E ops tV rest (HQ hb kv b none [] []::aO) ((d,Q (A7 b))::G)):
  RG E ops tV (⟨some d,.makeMap t none,ty,pos,after,none⟩::rest) aO G:= .of rfl fun a w S st=>by
 obtain⟨he,hs',hno⟩:=mH (w:=w) (.map #[] 0) st.sat;have hrun:(execOp a.eval ⟨some d,.makeMap t none,ty,pos,after,none⟩).run E.P w= .ok (.value (A7 w.heap.size)) (w.alloc (.map #[] 0)):=by
  simp [execOp,Instr.makeMap,A7]
 refine⟨fun c h=>(by cases h),?_⟩;rw [hrun];exact k w.heap.size _ _ S ⟨st.ext.step0 he,hs',xL st.own he ⟨hno,fun _ h=>(by cases h),#[],0,Ck w _,trivial,MapKept.stamped_empty 0⟩ (fun b V=>by
  rcases V with rfl|⟨_,h,_⟩
  ·exact kE _
  ·cases h) st.base_le,st.facts.put hd rfl⟩
def Cr{kk:Value}{es:Array MapEntry}{clock:Nat}{q:TypeDesc}{z:Value}{u:Option (Nat×Value)}(hm:P.underlying t=some (.map kt et))(hq:P.underlying kt=some q)(hk:MapKept.IsKey q kk)(V:w.heap[b]? =some (.map es clock))(hz:ZV P et z)(hf:Instr.findNow q kk es.toList 0=some u)(c:Bool):(Instr.lookup t (A7 b) kk c).run P w= .ok (if c then .tuple #[(u.map (·.2)).getD z,.bool u.isSome]else(u.map (·.2)).getD z) w:=by
 cases u with
 |none=>simp [Instr.lookup,A7,mb hm,Rm V,Ri hq hk,MapKept.run_findKey hq hf,hz.run,Result.andThen]
 |some r=>simp [Instr.lookup,A7,mb hm,Rm V,Ri hq hk,MapKept.run_findKey hq hf,Result.andThen]
def E0{kk:Value}{es:Array MapEntry}{clock:Nat}{q:TypeDesc}{val:Value}(hm:P.underlying t=some (.map kt et))(hq:P.underlying kt=some q)(hk:MapKept.IsKey q kk)(V:w.heap[b]? =some (.map es clock)):
  (Instr.findNow q kk es.toList 0=some none->(Instr.mapUpdate t (A7 b) kk val).run P w= .ok () {w with heap:=w.heap.setIfInBounds b (.map (es.push ⟨kk,val,clock⟩) (clock+1))})/\
  (∀j e,Instr.findNow q kk es.toList 0=some (some (j,e))->(∀e',es.toList[j]? =some e' ->e'.key=kk)->(∃e',es.toList[j]? =some e')->(Instr.mapUpdate t (A7 b) kk val).run P w= .ok () {w with heap:=w.heap.setIfInBounds b (.map (es.modify j fun e=>{e with key:=kk,val:=val}) clock)}):=by
 refine⟨fun hf=>?_,fun j e hf hj he=>?_⟩
 ·simp [Instr.mapUpdate,A7,mb hm,Rm V,Ri hq hk,MapKept.run_findKey hq hf,MapKept.run_setObj_map _ V,Result.andThen]
 ·obtain⟨e',he'⟩:=he;have H:=hj e' he';have W:es[j]? =some e' :=by simpa using he'
  simp [Instr.mapUpdate,A7,mb hm,Rm V,Ri hq hk,MapKept.run_findKey hq hf,MapKept.run_setObj_map _ V,Result.andThen,W,H,MapKept.run_keyThatStays hk]
def T4{y:β}{o:Option Nat×Nat}{val:Value}(hs:oF w S)(hm:E.P.underlying t=some (.map kt et))(hk:SQ E.P kt kv)(hp:(HQ hb kv b (some k) os m).p w S)(hv:hb.p w S y o val)(hob:o.1≠some b)(hap: ∀o' ∈os,∀j,o.1=some j->o'.1≠some j):
  ∃w' os',(Instr.mapUpdate t (A7 b) (kv k) val).run E.P w= .ok () w' /\mi (fun j=>j=b) w S w' S/\oF w' S/\(HQ hb kv b none os' (vP m k y)).p w' S/\(∀j,(HQ hb kv b none os' (vP m k y)).fp j->(HQ hb kv b (some k) os m).fp j\/o.1=some j):=by
 obtain⟨hno,hnb,es,clock,h3,h4,hst⟩:=hp;obtain⟨q,hq,hdk,hinj⟩:=hk;obtain⟨os',p1,p2⟩:=Kr hdk hinj (born:=clock) hv 0 h4 hap;have hnb' : ∀o' ∈os',o'.1≠some b:=fun o' ho' =>by
  rcases p1 o' ho' with h|rfl
  ·exact hnb o' h
  ·exact hob
 have hfp: ∀j,(j=b\/ ∃o∈os',o.1=some j)->(j=b\/ ∃o∈os,o.1=some j)\/o.1=some j:=fun j hj=>by
  rcases hj with h|⟨o',ho',e⟩
  ·exact .inl (.inl h)
  ·rcases p1 o' ho' with h|rfl
   ·exact .inl (.inr ⟨o',h,e⟩)
   ·exact .inr e
 have hw: ∀aa:Obj,mi (fun j=>j=b) w S {w with heap:=w.heap.setIfInBounds b aa} S/\oF {w with heap:=w.heap.setIfInBounds b aa} S/\({w with heap:=w.heap.setIfInBounds b aa}:World).heap[b]? =some aa:=fun aa=>
  ⟨⟨rfl,rfl,rfl,kE _,by simp,fun j _ hj=>(MapKept.heap_set (o' :=aa) h3).2 j hj,SH.le_refl _,fun _ _ _=>rfl⟩,hs.same fun j o hj=>(MapKept.heap_set (o' :=aa) h3).2 j (fun e=>by subst e;rw [hno]at hj;cases hj),(MapKept.heap_set h3).1⟩
 obtain⟨r1,r2⟩:=E0 (val:=val) hm hq (hdk k) h3;rcases p2 with⟨j,e,g1,g2,g3,g4⟩|⟨g1,g2⟩
 ·rw [yA]at g1;obtain⟨x1,x2,x3⟩:=hw (.map (es.modify j fun e=>{e with key:=kv k,val:=val}) clock);refine⟨_,os',r2 j _ g1 (fun e' he' =>by rw [g2]at he';cases he';exact g3) ⟨_,g2⟩,x1,x2,⟨hno,hnb',_,_,x3,?_,MapKept.stamped_modify hst j _ (fun _ _=>rfl) (fun e' _ he' =>by rw [<-Array.getElem?_toList,g2]at he';cases he';exact g3.symm)⟩,hfp⟩;refine Ev x1 (by rw [Array.toList_modify];exact g4) fun o' ho' j hj e=>?_;subst e;exact hnb' o' ho' hj
 ·obtain⟨x1,x2,x3⟩:=hw (.map (es.push ⟨kv k,val,clock⟩) (clock+1));refine⟨_,os',r1 g1,x1,x2,⟨hno,hnb',_,_,x3,?_,MapKept.stamped_push hst (fun x K e=>?_)⟩,hfp⟩
  rotate_left
  ·exact Uh hdk h4 g1 K e
  refine Ev x1 (by rw [Array.toList_push];exact g2) fun o' ho' j hj e=>?_;subst e;exact hnb' o' ho' hj
end
def CY(tmps:Array Value):ResultVar->Sem Value
 | .tmp t=>pure (tmps.getD t undef)
 | .cell a t=>do loadVar t (<-asAddr (tmps.getD a undef))
def Xq(P:Program)(N:Fr)(G:ou)(rv:ResultVar)(t:Ty):Prop:= ∀a w S,oF w S->cD N S a G-> ∃v,(CY a.tmps rv).run P w= .ok v w/\t.p S v
def dH{N:Fr}{k:Nat}{t:Ty}(hk:cX G k=some t):Xq P N G (.tmp k) t:=fun a w S _ hf=>⟨_,rfl,hf.at_ k t hk⟩
def hZ{N:Fr}{k:Nat}{x:α}(ti:TI P T sz bytes agg z)(hsz:r.sz=sz)(hag:r.agg=agg)(hk:cX G k=some (da r x)):Xq P N G (.cell k T) (tD r x):=fun a w S hs hf=>by
 obtain⟨b,off,c,U,fr,H,W,h3⟩:=hf.at_ k _ hk;obtain⟨c',h4,h5⟩:=hs.part W (r.len h3);rw [<-h5]at h3;have hl:=lq ti h4 hsz hag h3;have h1' :a.tmps[k]?.getD undef=Value.pointer (some ⟨b,off,none⟩):=by simpa [KM] using H
 exact⟨_,by simp [CY,h1',asAddr,hl],_,rfl,h3⟩
def Ux(P:Program)(N:Fr)(G:ou):List ResultVar->List Ty->Prop
 |[],[]=>True
 |rv::rvs,t::ts=>Xq P N G rv t/\Ux P N G rvs ts
 |_,_=>False
def Ux.run{N:Fr}(hs:oF w S)(hf:cD N S a G): ∀{rvs:List ResultVar} {ts:List Ty},Ux P N G rvs ts-> ∃vs,(rvs.mapM (CY a.tmps)).run P w= .ok vs w/\Au S ts vs/\vs.length=rvs.length
 |[],[],_=>⟨[],rfl,trivial,rfl⟩
 |rv::rvs,t::ts,⟨H,W⟩=>by
  obtain⟨v,g1,g2⟩:=H a w S hs hf;obtain⟨vs,k1,k2,k3⟩:=Ux.run hs hf W;exact⟨v::vs,by simp [List.mapM_cons,g1,k1,Result.andThen],⟨g2,k2⟩,by simp [k3]⟩
def kD{rvs:List ResultVar}(hr:fn.results=rvs.toArray)(H:Nat.beq rvs.length 1=false)(h:Ux P ⟨N,[]⟩ G rvs ts):
  AT ⟨P,⟨N,[]⟩,B,w0,S0,none⟩ (bodyPost P fn (Mb ⟨P,⟨N,[]⟩,B,w0,S0,none⟩ (tT ts))) .ret aO G:=fun a w S st=>by
 obtain⟨vs,k1,k2,k3⟩:=h.run st.sat st.facts;have hne: ¬vs.length=1:=by rw [k3];intro e;rw [e]at H;cases H
 refine⟨st.facts.defers,.tuple vs.toArray,?_,_,S,rfl,st.ext,st.sat,vs,rfl,k2⟩;have e1:(fn.results.mapM (CY a.tmps)).run P w= .ok vs.toArray w:=by
  rw [hr,List.mapM_toArray,Sem.run_map,k1];rfl
 have e3:results fn a.tmps=((fn.results.mapM (CY a.tmps))>>=fun vs=>pure (if h:vs.size=1 then vs[0]else .tuple vs)):=rfl;rw [e3,Am,e1];simp [Result.andThen,hne]
def Vo{v:Value}(h:(tD (gE r) xs).p S v):(gE r).rc S [v] xs:=by
 obtain⟨cs,e,W⟩:=h;obtain⟨a,cap,e2,h3⟩:=W;subst e2;rw [e];exact⟨a,cap,rfl,h3⟩
section
variable{ty:TypeId}
def oT{r:Rp β}{get:β->Value}{x:β}{p:Operand}(ti:TI E.P U 1 bytes false z)(hget:lO r off rV get)(hm:s r T b x∈aO)(hv:get x=aI l cap n)(hp:bk E.N G p (Q (M b off))):
  dw E aO G ⟨dst,.load U p,ty,pos,after,g⟩ (Q (aI l cap n)):=(aA (q:=rV) ti rfl rfl hget hm hp).imp fun _ _ h=>by rw [<-hv];exact(By.1 h).1
def iJ{q:Rp α}{r:Rp β}{get:β->Value}{x:β}{hb:TypeId}{p:Operand}(ti:TI E.P U 1 bytes false z)(hget:lO r off rV get)(hm:s r T b x∈aO)(hm2:lP q hb l cap xs∈aO)(hv:get x=aI l cap xs.length)(hp:bk E.N G p (Q (M b off))):
  dw E aO G ⟨dst,.load U p,ty,pos,after,g⟩ (tO q l cap xs):=fun a w S hs ho hf=>
 qn (fun _ _ ⟨v,S',H,W,h3,h4⟩=>⟨v,S',H,W,h3,h4,by
  have h5:v=aI l cap xs.length:=h4;rw [h5];exact pN (((ho.ext0 W).mem _ hm2).1)⟩) (oT (g:=g) (ty:=ty) (pos:=pos) (after:=after) (dst:=dst) ti hget hm hv hp a w S hs ho hf)
def bY{o:Nat}{p:Operand}(hf:cq E.P T i=some (off,sz))(h0:Nat.beq sz 0=false)(hp:bk E.N G p (Q (M b o)))(he:o+off=n):dw E aO G ⟨dst,.fieldAddr T p i,ty,pos,after,g⟩ (Q (M b n)):=by
 subst he;exact Jf hf h0 hp
def gG{q:Rp α}{r:Rp β}{x:β}{p:Operand}(ti:TI E.P U sz bytes agg z)(hsz:q.sz=sz)(hag:q.agg=agg)(hag2:r.agg=agg)(hsz2:r.sz=sz)(hm:s r T b x∈aO)(hc: ∀w S cs,gm E.base E.B w S aO->r.rc S cs x->q.rc S cs y)(hp:bk E.N G p (Q (M b 0))):
  dw E aO G ⟨dst,.load U p,ty,pos,after,g⟩ (tD q y):= .of_pure fun a w S _ ho hf=>by
 have H:a.eval p=M b 0:=hp S a hf;obtain⟨⟨_,cur,h5,h6⟩,_⟩:=ho.mem _ hm;have h7:=hc w S _ ho h6;have hl:=q.len h7;have h8:q.rc S ((cur.toList.drop 0).take q.sz) y:=by rw [yf,yi (by omega)];exact h7
 exact⟨_,by simp [execOp,H,M,Instr.loadAt,Instr.sureAddr,lq ti h5 hsz hag h8],_,rfl,h8⟩
def f7{q:Rp α}{hb:TypeId}(ho:gm base B w S aO)(hm:lP q hb l cap xs∈aO):(gE q).rc S [aI l cap xs.length] xs:=Vo (pN (ho.mem _ hm).1)
end
def sy{α β γ:Type}(r:Rp α)(r' :Rp γ)(off:Nat)(q:Rp β)(x:α)(y:β)(x' :γ):Prop:= ∀S cs ds,r.rc S cs x->q.rc S ds y->r'.rc S (cs.take off++ds++cs.drop (off+q.sz)) x'
def EX{set:α->β->α}{x:α}{y:β}(h:fd r off q set):sy r r off q x y (set x y):=fun S cs ds H W=>h S cs x ds y H W
variable{r' :Rp γ}
def oL{x:α}{y:γ}(hs:r.sz=r'.sz):sy r r' 0 r' x y y:=fun S cs ds H W=>by
 have hl:=r.len H;rw [List.take_zero,pM,IV (by omega),vW];exact W
def DG{α' :Type}{p:Rp α}{p' :Rp α'}{x:α×β}{y:γ}{x1:α'}(h:sy p p' 0 u x.1 y x1)(hu:Nat.ble u.sz p.sz=true):sy (dj p q) (dj p' q) 0 u x y (x1,x.2):=fun S cs ds ⟨a,b,e,H,W⟩ hd=>by
 have hl:=p.len H;have hu' :=vq hu;have h3:=h S a ds H hd;subst e;rw [List.take_zero,pM,yA,MG (by omega),<-jR];rw [List.take_zero,pM,yA]at h3;exact⟨_,_,rfl,h3,W⟩
def eM{β' :Type}{p:Rp α}{q' :Rp β'}{x:α×β}{y:γ}{off' :Nat}{x2:β'}(h:sy q q' off u x.2 y x2)(ho:off' =p.sz+off):sy (dj p q) (dj p q') off' u x y (x.1,x2):=fun S cs ds ⟨a,b,e,H,W⟩ hd=>by
 have hl:=p.len H;have h3:=h S b ds W hd;subst e ho;refine⟨a,_,?_,H,h3⟩;have e1:p.sz+off-a.length=off:=by omega
 have e2:p.sz+off+u.sz-a.length=off+u.sz:=by omega
 rw [List.take_append,List.drop_append,yi (by omega),IV (by omega),e1,e2];simp
variable{x' :γ}
def wg{α' β' :Type}{p:Rp α}{p' :Rp α'}{f:β->α}{f' :β' ->α'}{x:β}{x' :β'}{y:γ}{z:α'}(h:sy p p' off u (f x) y z)(e:f' x' =z):sy (sI p f) (sI p' f') off u x y x' :=fun S cs ds H W=>by
 show p'.rc S _ (f' x');rw [e];exact h S cs ds H W
section
variable{e:Exit}{ty:TypeId}
def gi{x:α}{y:β}{p v:Operand}(ti:TI E.P U sz bytes agg z)(hsz:q.sz=sz)(hset:sy r r' off q x y x')(hoff:Nat.ble (off+q.sz) r.sz=true)(hp:bk E.N G p (Q (M b off)))(hv:bk E.N G v (tD q y))(k:RG E ops tV rest (s r' T b x' ::aO) G):RG E ops tV (⟨none,.store U p v,ty,pos,after,none⟩::rest) (s r T b x::aO) G:= .of rfl fun a w S st=>by
 have H:a.eval p=M b off:=hp S a st.facts;obtain⟨ds,W,h3⟩:=hv S a st.facts;obtain⟨⟨hno,cur,h5,h6⟩,_⟩:=st.own.1;have hl:=r.len h6;have hoff' :=vq hoff;obtain⟨w',hr,e1,e2,e3,e4,e5,e6⟩:=lQ ti hsz h3 h5 (off:=off) (by simp at hl;omega);have hrun:(execOp a.eval ⟨none,.store U p v,ty,pos,after,none⟩).run E.P w= .ok .skip w' :=by
  simp [execOp,H,W,Instr.storeAt,M,Instr.sureAddr,hr]
 refine⟨fun c h=>(by cases h),?_⟩;rw [hrun];obtain⟨g1,g2,g3⟩:=qm (aO:=aO) st.sat (s r T b x) (s r' T b x') st.own (fun _=>qW) (fun _=>qW) ⟨e1,e2,e3,e4.1,e4.2⟩ e6 ⟨hno,_,e5,by simpa using hset S _ _ h6 h3⟩ hno;exact k _ _ S ⟨st.ext.step g1 (fun c hc=>st.own.1.2 c hc),g2,g3,st.facts⟩
def St.cvB{x:α}(h: ∀w S cs,gm E.base E.B w S aO->r.rc S cs x->r'.rc S cs x')(st:St E (s r T b x::aO) G a w S):St E (s r' T b x' ::aO) G a w S:=
 st.own_map fun⟨⟨⟨H,c,W,h3⟩,h4⟩,h5,h6⟩=>⟨⟨⟨H,c,W,h _ _ _ h6 h3⟩,h4⟩,h5,h6⟩
def Xs{x:α}(h: ∀w S cs,gm E.base E.B w S aO->r.rc S cs x->r'.rc S cs x')(k:RG E ops tV rest (s r' T b x' ::aO) G):RG E ops tV rest (s r T b x::aO) G:=fun a w S st=>k a w S (st.cvB h)
def yz{x:α}(h: ∀w S cs,gm E.base E.B w S aO->r.rc S cs x->r'.rc S cs x')(k:AT E tV e (s r' T b x' ::aO) G):AT E tV e (s r T b x::aO) G:=fun a w S st=>k a w S (st.cvB h)
end
section
variable{b:Frame}{k:List Item}{cs:List Frame}{F:Fence}
def tA:step P (lone (b.atR a (.code (.scope c)::k)) cs w)= .next (lone (b.atR a (.code c:: .inScope c::k)) cs w):=
 step_lone_go (by simp [stepG,stepG.exec,Frame.atR])
def IZ:step P (lone (b.atR a (.inScope c::k)) cs w)= .next (lone (b.atR a k) cs w):=
 step_lone_go (by simp [stepG,stepG.exec,Frame.atR])
def Pj(h:c.wpIn F n P (Exit.noGoto tV) a w):(Code.scope c).wpIn F n P tV a w:=by
 intro b k cs hro V hr;have h0:(lone (b.atR a (.code (.scope c)::k)) cs w).fenced P F:=fenced_calm V hr rfl;obtain⟨e,a₁,w₁,hq,harr⟩:=h b (.inScope c::k) cs hro V hr
 cases e with
 |normal=>exact⟨.normal,a₁,w₁,hq,.head h0 tA (StepsIn.trans harr (.one (fenced_calm V hr rfl) IZ))⟩
 |exit id=>
  have K:exitTo id (.inScope c::k)=exitTo id k:=by simp [exitTo]
  exact⟨.exit id,a₁,w₁,hq,fun k' hk=> .head h0 tA (harr.1 k' (by rw [K];exact hk)),
   fun hr' hk=>let⟨k₁,H,W⟩:=harr.2 hr' (by rw [K];exact hk);⟨k₁,H,.head h0 tA W⟩⟩
 |goto l=>exact hq.elim
 |ret=>exact⟨_,a₁,w₁,hq,.of_steps (.one h0 tA) harr⟩
 |panic ch=>exact⟨_,a₁,w₁,hq,.of_steps (.one h0 tA) harr⟩
 |outgrown=>exact⟨_,a₁,w₁,hq,.of_steps (.one h0 tA) harr⟩
end
section
def O0(h:CG E (Exit.noGoto tV) c aO G):CG E tV (.scope c) aO G:=fun a w S st=>Pj (h a w S st)
def O3{l:Nat}(h:AT E tV .normal aO G):CG E tV (.label l) aO G:=fun a w S st=>wpIn_label (h a w S st)
def y5(h:AT E tV .ret aO G):AT E (Exit.noGoto tV) .ret aO G:=h
end
def LM [Inhabited α](h:i<m):lO (pP r m) (i*r.sz) r (fun x=>(x[i]?).getD default):=fun S cs x ⟨H,W⟩=>by
 have hi:x[i]? =some ((x[i]?).getD default):=by rw [vp (by omega)];rfl
 exact DW W hi
def Sn [DecidableEq α] [Inhabited α]{t e:Nat}(D:P.underlying t=some (.array m e))(ti:TI P e sz bytes agg z)(hsz:r.sz=sz)(hag:r.agg=agg)(he:nv P e r n):nv P t (pP r m) (n+1):=fun S cs ds x y d w K hy=>by
 obtain⟨i,zv,hi,hs,_⟩:=ti.get;have hcell:P.cellsOf e=r.sz:=by unfold Program.cellsOf;rw [hi];simp [hs,hsz]
 have e1:(pP r m).val cs= .agg cs.toArray:=rfl;have e2:(pP r m).val ds= .agg ds.toArray:=rfl;rw [e1,e2,show d+(n+1)=(d+n)+1 from rfl,run_equalIn_array w (d+n) cs.toArray ds.toArray D hi,List.range_eq_range',hcell];have key: ∀k j,j+k=m->(Op.eqItems (d+n) e r.sz cs.toArray ds.toArray (List.range' j k)).run P w= .ok (decide (x.drop j=y.drop j)) w:=by
  intro k
  induction k with
  |zero=>
   intro j hj;rw [IV (by have:=K.1;omega),IV (by have:=hy.1;omega)];rfl
  |succ k ih=>
   intro j hj;have hjx:j<x.length:=by have:=K.1;omega
   have hjy:j<y.length:=by have:=hy.1;omega
   have H:=wi ti hsz hag (LM (r:=r) (m:=m) (i:=j) (by omega)) K w;have W:=wi ti hsz hag (LM (r:=r) (m:=m) (i:=j) (by omega)) hy w;have h3:=he S _ _ _ _ d w (LM (r:=r) (m:=m) (i:=j) (by omega) S cs x K) (LM (r:=r) (m:=m) (i:=j) (by omega) S ds y hy);rw [List.range'_succ];unfold Op.eqItems;simp only [Am,H,W,h3,Cc];have ex:x.drop j=(x[j]?).getD default::x.drop (j+1):=by rw [vp hjx];exact Ce hjx
   have ey:y.drop j=(y[j]?).getD default::y.drop (j+1):=by rw [vp hjy];exact Ce hjy
   rw [ex,ey];by_cases hq:(x[j]?).getD default=(y[j]?).getD default
   ·simp only [hq,decide_true,uc,jc,hX];rw [ih (j+1) (by omega)];congr 1;simp
   ·simp [hq]
 have:=key m 0 (by omega);simpa using this
section
variable{ty:TypeId}
def uX{xs:List Operand}{sz' bytes' :Nat}{agg' :Bool}{z' :List Value}(D:E.P.underlying t=some (.array m T))(ti:TI E.P T sz bytes agg z)(hsz:r.sz=sz)(tj:TI E.P t sz' bytes' agg' z')(hz:z'.length=m*r.sz)(hm:m=ys.length)(K:nD E.N G xs (ys.map (tD r))):dw E aO G ⟨dst,.build t (CC 0 xs).toArray,ty,pos,after,g⟩ (tD (pP r m) ys):=
 .of_pure fun a w S _ _ hF=>by
  obtain⟨zv,hzr,hzc⟩:=tj.zero w;obtain⟨cs,hc,hfill⟩:=Ic ys (xs.map a.eval) 0 [] z' (K.tys hF) (by simp) (by rw [hz,hm]);subst hsz;have hparts:((CC 0 xs).toArray.map fun(i,x)=>(i,a.eval x)).toList=FQ 0 (xs.map a.eval):=by simpa using Fl a.eval 0 xs
  rw [pM,pM]at hfill;refine⟨.agg cs.toArray,?_,cs,rfl,hm.symm,hc⟩;simp only [execOp,Instr.build,Am,hzr,Cc,mb D,ti.sizeOf,hzc,hparts,hfill];simp
end
