/- di of this claim: W32, W33, W34, W35, W36, W37, W38, W39, W40, W48, W50, W51, W41, W42, W43, W21, W27. -/
import Derived.Test.YtfhhakidodmdfaaGreatDoorJcV2
import Derived.ChangeKeysEq
import Derived.Lib.Bytealg
import Derived.Maps.Range
import Derived.Laws.IdiomRangeMap
import Derived.Test.YtfhhakidodmdfaaGreatDoorJcV1
import Derived.Laws.BytesString
import Derived.Below
import Derived.ProofKit
set_option linter.all false
namespace Go.Proofs.YtfhhakidodmdfaaGreatDoor
open Go

variable{S:SH}{β α:Type}{cs:List Value}{κ:Type}{m:List (κ×β)}{r:Rp α}{x:Operand}
theorem II [Inhabited α]{m i:Nat}(h:i<m):pY (n8 r m) (i*r.sz) r (fun x=>(x[i]?).getD default):=fun S cs x ⟨h1,h2⟩=>by
 have hi:x[i]? =some ((x[i]?).getD default):=by rw [ph (by omega)];rfl
 exact A8 h2 hi
variable{P:Program}{agg:Bool}{bytes d:Nat}{e:TypeId}{k n:Nat}{ok:α→Prop}{sz:Nat}{t:TypeId}{w:World}{y:β}{z:List Value}
theorem Pc [DecidableEq α] [Inhabited α]{m t e:Nat}(ht:P.underlying t=some (.array m e))(ti:TI P e sz bytes agg z)(hsz:r.sz=sz)(hag:r.agg=agg)(he:qN P e r n):qN P t (n8 r m) (n+1):=fun S cs ds x y d w hx hy=>by
 obtain⟨i,zv,hi,hs,_⟩:=ti.get
 have hcell:P.cellsOf e=r.sz:=by unfold Program.cellsOf;rw [hi];simp [hs,hsz]
 have e1:(n8 r m).val cs= .agg cs.toArray:=rfl
 have e2:(n8 r m).val ds= .agg ds.toArray:=rfl
 rw [e1,e2,show d+(n+1)=(d+n)+1 from rfl,run_equalIn_array w (d+n) cs.toArray ds.toArray ht hi,List.range_eq_range',hcell]
 have key: ∀k j,j+k=m→(Op.eqItems (d+n) e r.sz cs.toArray ds.toArray (List.range' j k)).run P w= .ok (decide (x.drop j=y.drop j)) w:=by
  intro k
  induction k with
  |zero=>
   intro j hj
   rw [D5 (by have:=hx.1;omega),D5 (by have:=hy.1;omega)]
   rfl
  |succ k ih=>
   intro j hj
   have hjx:j<x.length:=by have:=hx.1;omega
   have hjy:j<y.length:=by have:=hy.1;omega
   have h1:=sS ti hsz hag (II (r:=r) (m:=m) (i:=j) (by omega)) hx w
   have h2:=sS ti hsz hag (II (r:=r) (m:=m) (i:=j) (by omega)) hy w
   have h3:=he S _ _ _ _ d w (II (r:=r) (m:=m) (i:=j) (by omega) S cs x hx) (II (r:=r) (m:=m) (i:=j) (by omega) S ds y hy)
   rw [List.range'_succ]
   unfold Op.eqItems
   simp only [vf,h1,h2,h3,xf]
   have ex:x.drop j=(x[j]?).getD default::x.drop (j+1):=by rw [ph hjx];exact xu hjx
   have ey:y.drop j=(y[j]?).getD default::y.drop (j+1):=by rw [ph hjy];exact xu hjy
   rw [ex,ey]
   by_cases hq:(x[j]?).getD default=(y[j]?).getD default
   ·simp only [hq,CM,nh,gL,eT]
    rw [ih (j+1) (by omega)]
    congr 1
    simp
   ·simp [hq]
 have:=key m 0 (by omega)
 simpa using this
variable{E:En}{G:lW}{O:List OE}{T:TypeId}{a:Act}{after:Array Edge}{dst:Option Tmp}{g:Option (Nat×Bool)}{pos:String}{xs:List Operand}{ys:List α}
section
variable{ty:TypeId}
theorem G1{m sz' bytes' :Nat}{agg' :Bool}{z' :List Value}(ht:E.P.underlying t=some (.array m T))(ti:TI E.P T sz bytes agg z)(hsz:r.sz=sz)(tj:TI E.P t sz' bytes' agg' z')(hz:z'.length=m*r.sz)(hm:m=ys.length)(hx:j6 E.N G xs (ys.map (tD r))):bZ E O G ⟨dst,.build t (zL 0 xs).toArray,ty,pos,after,g⟩ (tD (n8 r m) ys):=
 .of_pure fun a w S _ _ hF=>by
  obtain⟨zv,hzr,hzc⟩:=tj.zero w
  obtain⟨cs,hc,hfill⟩:=Fi ys (xs.map a.eval) 0 [] z' (hx.tys hF) (by simp) (by rw [hz,hm])
  subst hsz
  have hparts:((zL 0 xs).toArray.map fun(i,x)=>(i,a.eval x)).toList=De 0 (xs.map a.eval):=by simpa using Cs a.eval 0 xs
  rw [k7,k7]at hfill
  refine⟨.agg cs.toArray,?_,cs,rfl,hm.symm,hc⟩
  simp only [execOp,Instr.build,vf,hzr,xf,lF ht,ti.sizeOf,hzc,hparts,hfill]
  simp
end

def xJ(N:Nat):List Nat→List Oper→Bool
 |_,[]=>true
 |seen,o::rest=>match o.dst with
  |some d=>Nat.blt d N&& !(seen.any (Nat.beq d))&&xJ N (d::seen) rest
  |none=>xJ N seen rest
variable{N:Nat}{o:Oper}{p:Operand}{q:Rp β}
theorem C1(l:List Oper): ∀(seen:List Nat),xJ N seen l=true→
  (∀o:Oper,o∈l→ ∀d,o.dst=some d→d<N∧d∉seen)∧ ∀(i j:Nat) (o p:Oper) (d:Nat),l[i]? =some o→l[j]? =some p→o.dst=some d→p.dst=some d→i=j:=by
 induction l with
 |nil=>exact fun _ _=>⟨fun _ h=>(by cases h),fun _ _ _ _ _ h=>(by simp at h)⟩
 |cons o l ih=>
  intro seen h
  unfold xJ at h
  cases hd:o.dst with
  |none=>
   rw [hd]at h
   obtain⟨h1,h2⟩:=ih seen h
   refine⟨fun q hq d hqd=>?_,fun i j p q d hi hj hp hq=>?_⟩
   ·rcases gk.1 hq with rfl|hq
    ·rw [hd]at hqd;cases hqd
    ·exact h1 q hq d hqd
   ·cases i with
    |zero=>simp at hi;subst hi;rw [hd]at hp;cases hp
    |succ i=>
     cases j with
     |zero=>simp at hj;subst hj;rw [hd]at hq;cases hq
     |succ j=>rw [h2 i j p q d (by simpa using hi) (by simpa using hj) hp hq]
  |some d0=>
   rw [hd]at h
   simp only [mz,vY,Dn]at h
   obtain⟨⟨g1,g2⟩,g3⟩:=h
   obtain⟨h1,h2⟩:=ih (d0::seen) g3
   have hns:d0∉seen:=fun hm=>by
    have:seen.any (Nat.beq d0)=true:=uV.2 ⟨d0,hm,Nat.beq_refl d0⟩
    rw [this]at g2;cases g2
   refine⟨fun q hq d hqd=>?_,fun i j p q d hi hj hp hq=>?_⟩
   ·rcases gk.1 hq with rfl|hq
    ·rw [hd]at hqd;cases hqd;exact⟨g1,hns⟩
    ·obtain⟨k1,k2⟩:=h1 q hq d hqd
     exact⟨k1,fun hm=>k2 (lc _ hm)⟩
   ·cases i with
    |zero=>
     cases j with
     |zero=>rfl
     |succ j=>
      simp at hi;subst hi
      rw [hd]at hp;cases hp
      exact absurd (lb ..) (h1 q (sM (by simpa using hj)) d0 hq).2
    |succ i=>
     cases j with
     |zero=>
      simp at hj;subst hj
      rw [hd]at hq;cases hq
      exact absurd (lb ..) (h1 p (sM (by simpa using hi)) d0 hp).2
     |succ j=>rw [h2 i j p q d (by simpa using hi) (by simpa using hj) hp hq]
def Ks:List Oper→List Ty→lW→lW
 |o::l,t::ts,G=>match o.dst with
  |some d=>(d,t)::Ks l ts G
  |none=>Ks l ts G
 |_,_,G=>G
variable{ts:List Ty}{u:Value}
theorem G4(l:List Oper): ∀(ts:List Ty) (k:Nat) (t:Ty),ts.length=l.length→dm (Ks l ts G) k=some t→
  (∃(j:Nat) (o:Oper),l[j]? =some o∧o.dst=some k∧ts[j]? =some t)∨(dm G k=some t∧ ∀o:Oper,o∈l→o.dst≠some k):=by
 induction l with
 |nil=>
  intro ts k t hl h
  have:ts=[]:=uu (by simpa using hl)
  subst this
  exact .inr ⟨h,fun _ h=>(by cases h)⟩
 |cons o l ih=>
  intro ts k t hl h
  cases ts with
  |nil=>simp at hl
  |cons u ts=>
   unfold Ks at h
   have hl' :ts.length=l.length:=by simpa using hl
   have lift:((∃(j:Nat) (p:Oper),l[j]? =some p∧p.dst=some k∧ts[j]? =some t)∨(dm G k=some t∧ ∀p:Oper,p∈l→p.dst≠some k))→o.dst≠some k→
     (∃(j:Nat) (p:Oper),(o::l)[j]? =some p∧p.dst=some k∧(u::ts)[j]? =some t)∨(dm G k=some t∧ ∀p:Oper,p∈o::l→p.dst≠some k):=by
    rintro(⟨j,p,h1,h2,h3⟩|⟨h1,h2⟩) hne
    ·exact .inl ⟨j+1,p,by simpa using h1,h2,by simpa using h3⟩
    ·exact .inr ⟨h1,fun p hp=>(gk.1 hp).elim (fun e=>by subst e;exact hne) (h2 p)⟩
   cases hd:o.dst with
   |none=>
    rw [hd]at h
    exact lift (ih ts k t hl' h) (by rw [hd];exact fun e=>by cases e)
   |some d=>
    rw [hd]at h
    simp only at h
    unfold dm at h
    by_cases hb:Nat.beq d k=true
    ·rw [hb]at h
     have:=oV hb
     subst this
     have e:u=t:=by simpa using h
     subst e
     exact .inl ⟨0,o,rfl,hd,rfl⟩
    ·rw [zW]at hb
     rw [hb]at h
     refine lift (ih ts k t hl' h) ?_
     rw [hd]
     intro e
     have:d=k:=p5 e
     subst this
     simp at hb
abbrev TS:=List Nat×(List OI→Ty)
def TS.at(p:TS)(σ:Nat→OI):Ty:=p.2 (p.1.map σ)
def tc(t:Ty):TS:=([],fun _=>t)
def QZ(Ss:List ((Nat→OI)→List OE))(c:Nat)(σ:Nat→OI):List OE:=match Ss[c]? with|some f=>f σ|none=>[]
structure NS where
 slot:Nat
 ty:(Nat→OI)→Ty
 src:Option Nat
def NS.at(n:NS)(σ:Nat→OI):Nd:=⟨n.slot,n.ty σ,n.src⟩
def WD(G:lW)(ts:List TS)(n:NS):Prop:=
 match n.src with
 |some j=> ∀σ,(ts[j]?).map (fun p=>p.at σ)=some (n.ty σ)
 |none=> ∀σ,dm G n.slot=some (n.ty σ)
def xd(G:lW)(ts:List TS):List NS→Prop
 |[]=>True
 |n::l=>WD G ts n∧xd G ts l
theorem xd.mem{ts:List TS}: ∀{l:List NS},xd G ts l→ ∀n∈l,WD G ts n
 |_::_,⟨h,_⟩,_,.head _=>h
 |_::_,⟨_,h⟩,_,.tail _ hm=>xd.mem h _ hm
def w7(l:List NS)(σ:Nat→OI):lW:=ko (l.map (·.at σ))
def TD(ts:List TS)(σ:Nat→OI):List Ty:=ts.map fun p=>p.at σ
def QB(L:List Oper)(es:List Bool)(i:Nat)(p:TS):Bool:=p.1.all fun k=>(es[k]?).getD false&&(Nat.beq k i||nM L L.length i k)
def Yb(L:List Oper)(es:List Bool)(i lo hi:Nat):Bool:=
 Nat.ble lo (gV es es.length)&&(List.range es.length).all fun k=> !((es[k]?).getD false)||((Nat.ble lo (gV es k)||nM L L.length i k)&&(Nat.blt (gV es k) hi||nM L L.length k i))
def DS(E:En)(G:lW)(L:List Oper)(ts:List TS)(Ss:List ((Nat→OI)→List OE))(es0:List Bool):Nat→Nat→List Oper→List Bool→Prop
 |_,_,[],_=>True
 |i,c,o::rest,false::es=>(∃(needs:List NS) (t:TS) (lo hi:Nat),ts[i]? =some t∧xd G ts needs∧(needs.all fun n=>qf L o i (n.at fun _=>pj))=true∧fd i o=true∧QB L es0 i t=true∧Yb L es0 i lo hi=true∧o.dst.isSome=true∧
   ∀c σ,lo≤c→c≤hi→cv E (QZ Ss c σ) L.toArray (w7 needs σ) o (t.at σ))∧DS E G L ts Ss es0 (i+1) c rest es
 |i,c,o::rest,true::es=>(∃(needs:List NS) (t:TS),ts[i]? =some t∧xd G ts needs∧(needs.all fun n=>qf L o i (n.at fun _=>pj))=true∧fd i o=true∧QB L es0 i t=true∧
   ∀σ,qJ E L.toArray (QZ Ss c σ) (w7 needs σ) o (fun x=>QZ Ss (c+1) (Mg σ i x)) (fun x=>t.at (Mg σ i x)))∧DS E G L ts Ss es0 (i+1) (c+1) rest es
 |_,_,_::_,[]=>False
variable{L:List Oper}{Ss:List ((Nat→OI)→List OE)}{c:Code}{es:List Bool}{lo:Int}{σ:Nat→OI}
theorem DS.get{ts:List TS}{es0:List Bool}: ∀(r:List Oper) (es:List Bool) (k c:Nat),DS E G L ts Ss es0 k c r es→ ∀(j:Nat) (o:Oper),r[j]? =some o→
    ∃e,es[j]? =some e∧ ∃(needs:List NS) (t:TS),ts[k+j]? =some t∧xd G ts needs∧(needs.all fun n=>qf L o (k+j) (n.at fun _=>pj))=true∧fd (k+j) o=true∧QB L es0 (k+j) t=true∧
      (match e with
       |false=>o.dst.isSome=true∧ ∃lo hi,Yb L es0 (k+j) lo hi=true∧ ∀c σ,lo≤c→c≤hi→cv E (QZ Ss c σ) L.toArray (w7 needs σ) o (t.at σ)
       |true=> ∀σ,qJ E L.toArray (QZ Ss (c+gV es j) σ) (w7 needs σ) o (fun x=>QZ Ss (c+gV es j+1) (Mg σ (k+j) x)) (fun x=>t.at (Mg σ (k+j) x))):=by
  intro r
  induction r with
  |nil=>intro es k c _ j o h;simp at h
  |cons p r ih=>
    intro es k c h j o ho
    cases es with
    |nil=>exact h.elim
    |cons e es=>
      cases e with
      |false=>
        obtain⟨⟨needs,t,lo,hi,g1,g2,g3,g4,g5,g6,g7,g8⟩,h2⟩:=h
        cases j with
        |zero=>
          simp at ho;subst ho
          exact⟨false,rfl,needs,t,g1,g2,g3,g4,g5,g7,lo,hi,g6,g8⟩
        |succ j=>
          obtain⟨e',g1,g2⟩:=ih es (k+1) _ h2 j o (by simpa using ho)
          refine⟨e',by simpa using g1,?_⟩
          rw [show k+1+j=k+(j+1)from by omega]at g2
          have e1:c+gV (false::es) (j+1)=c+gV es j:=by simp [gV]
          rw [e1];exact g2
      |true=>
        obtain⟨h1,h2⟩:=h
        cases j with
        |zero=>
          simp at ho;subst ho
          exact⟨true,rfl,h1⟩
        |succ j=>
          obtain⟨e',g1,g2⟩:=ih es (k+1) _ h2 j o (by simpa using ho)
          refine⟨e',by simpa using g1,?_⟩
          rw [show k+1+j=k+(j+1)from by omega]at g2
          have e1:c+gV (true::es) (j+1)=c+1+gV es j:=by simp [gV];omega
          rw [e1];exact g2
structure XO(E:En)(G:lW)(l:List Oper)(ts:List TS)(Ss:List ((Nat→OI)→List OE))(es:List Bool)(done:Array Bool)(a:Act)(w:World)(S:SH)(σ:Nat→OI)(c:Nat):Prop where
 ext:gz E.B E.w0 E.S0 w S
 sat:jL w S
 own:cZ E.base E.B w S (QZ Ss c σ)
 size:a.tmps.size=E.N.n
 defers:a.defers=E.N.ds
 dsz:done.size=l.length
 down: ∀j o,l[j]? =some o→done.getD j false=true→ ∀e∈o.after,Region.binds .any e=true→done.getD e.on false=true
 old: ∀k t,dm G k=some t→(∀j o,l[j]? =some o→done.getD j false=true→o.dst≠some k)→t.p S (a.tmps.getD k undef)
 new: ∀j o d p,l[j]? =some o→done.getD j false=true→o.dst=some d→ts[j]? =some p→(p.at σ).p S (a.tmps.getD d undef)
 deps: ∀j p,done.getD j false=true→ts[j]? =some p→ ∀k∈p.1,done.getD k false=true
 chain: ∀k,es[k]? =some true→(done.getD k false=true↔gV es k<c)
variable{S' :SH}{b:Nat}{done:Array Bool}{f:FuncId}{v:Value}{w' :World}
section
variable{ts:List TS}
theorem XO.need{c:Nat}(h:XO E G L ts Ss es done a w S σ c){i:Nat}(hi:L[i]? =some o)(hun:done.getD i true=false)(hwait: ∀e∈o.after,Region.binds .any e=true→done.getD e.on false=true){needs:List NS}(h1:xd G ts needs)(h2:(needs.all fun n=>qf L o i (n.at fun _=>pj))=true):di E.N S a (w7 needs σ):=by
 have hlt:i<done.size:=by rw [h.dsz];exact(jP.1 hi).1
 have hun' :done.getD i false=false:=by
  simp [hlt]at hun ⊢;exact hun
 refine⟨h.size,h.defers,?_⟩
 have key: ∀n∈needs,(n.ty σ).p S (a.tmps.getD n.slot undef):=by
  intro n hn
  have hs:=ki.1 h2 n hn
  have ho:=h1.mem n hn
  unfold qf NS.at at hs
  unfold WD at ho
  cases hsrc:n.src with
  |some j=>
   rw [hsrc]at hs ho
   simp only [mz]at hs
   obtain⟨hs1,hs2⟩:=hs
   cases hj:L[j]? with
   |none=>rw [hj]at hs1;cases hs1
   |some p=>
    rw [hj]at hs1
    cases hd:p.dst with
    |none=>simp only [hd]at hs1;cases hs1
    |some d=>
     simp only [hd]at hs1
     have hd' :=oV hs1
     subst hd'
     have hdone:done.getD j false=true:=by
      unfold CY at hs2
      obtain⟨e,he0,hb⟩:=uV.1 hs2
      have he:e∈o.after:=by simpa using he0
      simp only [mz]at hb
      have:=hwait e he hb.2
      rwa [oV hb.1]at this
     have hm:=ho σ
     cases hf:ts[j]? with
     |none=>rw [hf]at hm;simp at hm
     |some f=>
      rw [hf]at hm
      have e:f.at σ=n.ty σ:=by simpa using hm
      rw [←e]
      exact h.new j p n.slot f hj hdone hd hf
  |none=>
   rw [hsrc]at hs ho
   refine h.old _ _ (ho σ) fun j p hj hdone hd=>?_
   have:=ki.1 hs p (sM hj)
   simp only [hd,Nat.beq_refl,nh,sy]at this
   unfold CY at this
   obtain⟨e,he0,hb⟩:=uV.1 this
   have he:e∈p.after:=by simpa using he0
   simp only [mz]at hb
   have h3:=h.down j p hj hdone e he hb.2
   rw [oV hb.1]at h3
   rw [h3]at hun'
   cases hun'
 clear h1 h2
 intro k t hk
 unfold w7 at hk
 induction needs with
 |nil=>simp [ko,dm]at hk
 |cons n needs ih=>
  simp only [vm]at hk
  unfold ko dm at hk
  by_cases hb:Nat.beq n.slot k=true
  ·have hb' :Nat.beq (n.at σ).slot k=true:=hb
   rw [hb']at hk
   have:=oV hb
   subst this
   have h9:some (n.at σ).ty=some t:=by simpa using hk
   have e:n.ty σ=t:=p5 h9
   rw [←e]
   exact key n (lb ..)
  ·rw [zW]at hb
   have hb' :Nat.beq (n.at σ).slot k=false:=hb
   rw [hb']at hk
   exact ih (fun m hm=>key m (lc _ hm)) hk
theorem XO.step{σ' :Nat→OI}{c c' :Nat}(h:XO E G L ts Ss es done a w S σ c){i:Nat}{p0:TS}{C:Nat→Prop}(hi:L[i]? =some o)(hdN: ∀d,o.dst=some d→d<E.N.n)(hs2: ∀d,o.dst=some d→ ∀j p,L[j]? =some p→done.getD j false=true→p.dst=some d→i=j)(hwait: ∀e∈o.after,Region.binds .any e=true→done.getD e.on false=true)(ht:ts[i]? =some p0)(hun:done.getD i true=false)(hdep: ∀k∈p0.1,k=i∨done.getD k false=true)(hext:gz C w S w' S')(hC: ∀b,C b→E.base≤b∨E.B b)(hsat:jL w' S')(hown:cZ E.base E.B w' S' (QZ Ss c' σ'))(hσ: ∀k,k≠i→σ' k=σ k)(hv:(p0.at σ').p S' v)(hch: ∀k,es[k]? =some true→((done.setIfInBounds i true).getD k false=true↔gV es k<c')):
  XO E G L ts Ss es (done.setIfInBounds i true) (a.put o.dst v) w' S' σ' c' :=by
 have hlt:i<done.size:=by rw [h.dsz];exact(jP.1 hi).1
 have hset: ∀j,(done.setIfInBounds i true).getD j false=true→j=i∨done.getD j false=true:=fun j hj=>by
  by_cases hij:i=j
  ·exact .inl hij.symm
  ·rw [vk false hij]at hj;exact .inr hj
 have hseti:(done.setIfInBounds i true).getD i false=true:=by simp [hlt]
 have hun' :done.getD i false=false:=by simp [hlt]at hun ⊢;exact hun
 have hput: ∀k,(∀d,o.dst=some d→d≠k)→(a.put o.dst v).tmps.getD k undef=a.tmps.getD k undef:=fun k hk=>by
  cases hd:o.dst with
  |none=>rfl
  |some d=>
   have hda:d<a.tmps.size:=by rw [h.size];exact hdN d hd
   rw [rD hda,aX (hk d hd)]
 refine⟨h.ext.step hext hC,hsat,hown,?_,?_,by simp [h.dsz],fun j p hj hdone e he hb=>?_,fun k u hk hno=>?_,fun j p d' u hj hdone hd' hu=>?_,fun j u hj hu k hk=>?_,hch⟩
 ·cases o.dst with
  |none=>exact h.size
  |some d=>simp [Act.put,h.size]
 ·cases o.dst with
  |none=>exact h.defers
  |some d=>exact h.defers
 ·rcases hset j hdone with rfl|hj'
  ·rw [hi]at hj
   have:o=p:=by simpa using hj
   subst this
   exact vZ (hwait e he hb)
  ·exact vZ (h.down j p hj hj' e he hb)
 ·rw [hput k fun d hd e=>hno i o hi hseti (by rw [hd,e])]
  exact u.mono hext.keep (h.old k u hk fun j p hj hdone=>hno j p hj (vZ hdone))
 ·by_cases hij:j=i
  ·subst hij
   rw [hi]at hj
   have:o=p:=by simpa using hj
   subst this
   have hda:d' <a.tmps.size:=by rw [h.size];exact hdN d' hd'
   rw [hd',rD hda,bk rfl]
   rw [ht]at hu
   have:p0=u:=by simpa using hu
   subst this
   exact hv
  ·have hj' :=(hset j hdone).resolve_left hij
   rw [hput d' fun d hd e=>by subst e;exact hij (hs2 d hd j p hj hj' hd').symm]
   have e1:u.at σ' =u.at σ:=congrArg u.2 (Ju fun k hk=>hσ k fun e=>by
     subst e
     rw [h.deps j u hj' hu k hk]at hun';cases hun')
   rw [e1]
   exact Ty.mono _ hext.keep (h.new j p d' u hj hj' hd' hu)
 ·rcases hset j hj with rfl|hj'
  ·rw [ht]at hu
   have:p0=u:=by simpa using hu
   subst this
   rcases hdep k hk with rfl|h'
   ·exact hseti
   ·exact vZ h'
  ·exact vZ (h.deps j u hj' hu k hk)
end
variable{Q:Exit→Act→World→Prop}
theorem JF{l t:List Oper}{ts:List TS}(hsl:xJ E.N.n [] l=true)(hlen:ts.length=l.length)(hesl:es.length=l.length)(hd:DS E G (l++t) ts Ss es 0 0 l es)(hch:Nw (l++t) es=true)(ht:zx (l++t) l.length t.length=true)(hQ: ∀a w S σ,St E (QZ Ss (gV es es.length) σ) (Ks l (TD ts σ) G) a w S→wpListIn (fw E.r) 0 E.P (l++t).toArray Q t a w):
  ∀(fuel:Nat) (done:Array Bool) (a:Act) (w:World) (S:SH) (σ:Nat→OI) (c:Nat),lH done=fuel→(∀j,l.length≤j→done.getD j false=false)→c≤gV es es.length→XO E G (l++t) ts Ss es done a w S σ c→wpAnyIn (fw E.r) 0 E.P .any (l++t).toArray Q fuel done a w:=by
 have hL1: ∀i o,i<l.length→(l++t)[i]? =some o→l[i]? =some o:=fun i o hi h=>by rwa [B0 hi]at h
 have hL2: ∀i o,l[i]? =some o→(l++t)[i]? =some o:=fun i o h=>by rw [B0 (jP.1 h).1];exact h
 have htail: ∀m o,l.length≤m→(l++t)[m]? =some o→wM (l++t) m=true∧fd m o=true:=fun m o hm ho=>by
  have hml:m<(l++t).length:=(jP.1 ho).1
  rw [jx]at hml
  unfold zx at ht
  have:=ki.1 ht (m-l.length) (by simp;omega)
  rw [show l.length+(m-l.length)=m from by omega,ho]at this
  simp only [mz]at this
  exact⟨this.1,this.2.1⟩
 have hget:=fun i o (hi:l[i]? =some o)=>DS.get l es 0 0 hd i o hi
 have hedge: ∀i o,(l++t)[i]? =some o→fd i o=true:=fun i o hi=>by
  rcases nL i l.length with h|h
  ·obtain⟨_,_,_,_,_,_,_,h,_⟩:=hget i o (hL1 i o h hi)
   simpa using h
  ·exact(htail i o h hi).2
 obtain⟨hs1,hs2⟩:=C1 l [] hsl
 have fin: ∀fuel done a w S σ c,lH done=fuel→(∀j,l.length≤j→done.getD j false=false)→c≤gV es es.length→XO E G (l++t) ts Ss es done a w S σ c→(∀i,i<l.length→done.getD i false=true)→wpAnyIn (fw E.r) 0 E.P .any (l++t).toArray Q fuel done a w:=by
  intro fuel done a w S σ c hu hfree hcle h hall
  have hcc:c=gV es es.length:=by
   rcases nL c (gV es es.length)with hlt|hge
   ·obtain⟨i,h1,h2,h3⟩:=wQ hlt
    have:=(h.chain i h2).1 (hall i (by omega))
    omega
   ·omega
  subst hcc
  refine z6 (n:=l.length) (fun m o hm ho=>(htail m o hm ho).1) hedge t l.length done fuel a w (dY _) (by simp) h.dsz (fun j hj=>⟨fun hjd=>?_,fun hlt=>hall j hlt⟩) hu
   (hQ a w S σ ⟨h.ext,h.sat,h.own,h.size,h.defers,fun j u hj=>?_⟩)
  ·rcases nL j l.length with h' |h'
   ·exact h'
   ·rw [hfree j h']at hjd;cases hjd
  ·rcases G4 l (TD ts σ) j u (by unfold TD;rw [CQ];exact hlen) hj with⟨i,o,h1,h2,h3⟩|⟨h1,h2⟩
   ·unfold TD at h3
    rw [CT]at h3
    cases hf:ts[i]? with
    |none=>rw [hf]at h3;simp at h3
    |some f=>
     rw [hf]at h3
     have e:f.at σ=u:=by simpa using h3
     rw [←e]
     exact h.new i o j f (hL2 i o h1) (hall i (jP.1 h1).1) h2 hf
   ·refine h.old j u h1 fun i o ho hdn=>?_
    rcases nL i l.length with h' |h'
    ·exact h2 o (sM (hL1 i o h' ho))
    ·rw [hfree i h']at hdn;cases hdn
 have lower: ∀done a w S σ c i,(∀j,l.length≤j→done.getD j false=false)→XO E G (l++t) ts Ss es done a w S σ c→i∈Region.ready .any (l++t).toArray done→l.length≤i→ ∀j,j<l.length→done.getD j false=true:=by
  intro done a w S σ c i hfree h hi hge j hj
  obtain⟨hun,p,hp,hwait⟩:=tw.1 hi
  have hp' :(l++t)[i]? =some p:=by simpa using hp
  have hcov:=(htail i p hge hp').1
  unfold wM at hcov
  have hre:=ki.1 hcov j (by simp;omega)
  exact gF h.down _ i j (fun q hq e he hb=>by
   have:q=p:=by rw [hp']at hq;simpa using hq.symm
   subst this
   exact hwait e he hb) hre
 have hchain: ∀i j,j<i→es[i]? =some true→es[j]? =some true→nM (l++t) (l++t).length i j=true:=fun i j hij h1 h2=>by
  unfold Nw at hch
  have hil:i<es.length:=(jP.1 h1).1
  have:=ki.1 (ki.1 hch i (by simpa using hil)) j (by simpa using hij)
  rw [h1,h2]at this
  simpa using this
 intro fuel
 induction fuel with
 |zero=>
  intro done a w S σ c hu hfree hcle h
  exact fin 0 done a w S σ c hu hfree hcle h fun i hi=>uy hu (by rw [h.dsz,jx];omega)
 |succ fuel ih=>
  intro done a w S σ c hu hfree hcle h
  by_cases hall: ∀i,i<l.length→done.getD i false=true
  ·exact fin _ done a w S σ c hu hfree hcle h hall
  have hready0: ∀m i,i<m→i<l.length→Region.ready .any (l++t).toArray done=[]→done.getD i false=true:=by
   intro m
   induction m with
   |zero=>intro i h;omega
   |succ m ihm=>
    intro i him hil hr
    have his:i<done.size:=by rw [h.dsz,jx];omega
    by_cases hdn:done.getD i true=true
    ·rw [←oF his];exact hdn
    ·exfalso
     obtain⟨o,ho⟩: ∃o,(l++t)[i]? =some o:=⟨l[i],hL2 i _ (ph hil)⟩
     have hmem:i∈Region.ready .any (l++t).toArray done:=by
      rw [tw]
      refine⟨by simpa using hdn,o,by simpa using ho,fun e he hb=>?_⟩
      have:=hedge i o ho
      unfold fd at this
      have:=ki.1 this e (by simpa using he)
      simp only [hb,nh,sy,vY]at this
      exact ihm e.on (by omega) (by omega) hr
     rw [hr]at hmem;cases hmem
  refine⟨fun hr=>absurd (fun i hi=>hready0 (i+1) i (by omega) hi hr) hall,fun i hi=>?_⟩
  have hil:i<l.length:=by
   rcases nL i l.length with h' |h'
   ·exact h'
   ·exact absurd (lower done a w S σ c i hfree h hi h') hall
  obtain⟨hun,o,ho,hwait⟩:=tw.1 hi
  have ho' :(l++t)[i]? =some o:=by simpa using ho
  have hol:=hL1 i o hil ho'
  obtain⟨e,he,needs,u,h1,h2,h3,_,h4,h5⟩:=hget i o hol
  rw [ve]at h1 h3 h4
  have hF:=h.need ho' hun hwait h2 h3
  have his:i<done.size:=by rw [h.dsz,jx];omega
  have hun' :done.getD i false=false:=by rw [←oF his];exact hun
  have hu' :lH (done.setIfInBounds i true)=fuel:=by have:=qU hun;omega
  have huq: ∀d,o.dst=some d→ ∀j p,(l++t)[j]? =some p→done.getD j false=true→p.dst=some d→i=j:=fun d hdd j p hj hjd hpd=>by
   rcases nL j l.length with h' |h'
   ·exact hs2 i j o p d hol (hL1 j p h' hj) hdd hpd
   ·rw [hfree j h']at hjd;cases hjd
  have hfree' : ∀j,l.length≤j→(done.setIfInBounds i true).getD j false=false:=fun j hj=>by
   rw [vk false (by omega)];exact hfree j hj
  have hbl:E.base≤w.heap.size:=h.ext.size
  have hwaits: ∀q,(l++t)[i]? =some q→ ∀e∈q.after,Region.binds .any e=true→done.getD e.on false=true:=fun q hq e he hb=>by
   have:q=o:=by rw [ho']at hq;simpa using hq.symm
   subst this
   exact hwait e he hb
  have hdpp: ∀k∈u.1,k=i∨done.getD k false=true:=fun k hk=>by
   have:=ki.1 h4 k hk
   simp only [mz,qO]at this
   rcases this.2 with hb|hb
   ·exact .inl (oV hb)
   ·exact .inr (gF h.down _ i k hwaits hb)
  have hdNN: ∀d,o.dst=some d→d<E.N.n:=fun d hd=>(hs1 o (sM hol) d hd).1
  unfold wpOpIn
  rw [ho]
  show if _ then _ else _
  cases e with
  |false=>
   simp only at h5
   obtain⟨hdS,lo,hi',hwin,h5⟩:=h5
   rw [ve]at hwin
   obtain⟨d,hdd⟩:=Option.isSome_iff_exists.1 hdS
   have hdN:=(hs1 o (sM hol) d hdd).1
   unfold Yb at hwin
   rw [mz]at hwin
   obtain⟨hw1,hw2⟩:=hwin
   have hw1' :=oP hw1
   have hwk: ∀k,es[k]? =some true→(Nat.ble lo (gV es k)=true∨nM (l++t) (l++t).length i k=true)∧(Nat.blt (gV es k) hi' =true∨nM (l++t) (l++t).length k i=true):=fun k hk=>by
    have hkl:k<es.length:=(jP.1 hk).1
    have:=ki.1 hw2 k (by simpa using hkl)
    rw [hk]at this
    simpa using this
   have hlo:lo≤c:=by
    rcases nL c lo with hlt|hge
    ·exfalso
     obtain⟨k,hk1,hk2,hk3⟩:=wQ (es:=es) (c:=c) (k:=es.length) (by omega)
     rcases(hwk k hk2).1 with hb|hb
     ·have:=oP hb;omega
     ·have:=(h.chain k hk2).1 (gF h.down _ i k hwaits hb)
      omega
    ·exact hge
   have hhi:c≤hi' :=by
    rcases nL hi' c with hlt|hge
    ·exfalso
     obtain⟨k,hk1,hk2,hk3⟩:=wQ (es:=es) (c:=hi') (k:=es.length) (by omega)
     rcases(hwk k hk2).2 with hb|hb
     ·simp only [vY]at hb;omega
     ·have hkd:done.getD k false=true:=(h.chain k hk2).2 (by omega)
      have:=gF h.down _ k i (fun q hq e he hb=>h.down k q hq hkd e he hb) hb
      rw [this]at hun';cases hun'
    ·exact hge
   have h6:=h5 c σ hlo hhi a w S h.sat h.own hF
   have hch' : ∀k,es[k]? =some true→((done.setIfInBounds i true).getD k false=true↔gV es k<c):=fun k hk=>by
    have hne:i≠k:=fun e=>by subst e;rw [he]at hk;cases hk
    rw [vk false hne];exact h.chain k hk
   by_cases hw:Region.wanted o (yielded (l++t).toArray a.tmps)=true
   ·rw [bk hw]at h6 ⊢
    refine lk (fun a' w' ⟨v,S',ha,hx,hs,hv⟩=>?_) h6
    subst ha
    exact ih _ _ _ S' _ c hu' hfree' hcle (h.step ho' hdNN huq hwait h1 hun hdpp hx (fun _ hb=>hb.elim) hs (h.own.ext0 hx) (fun _ _=>rfl) hv hch')
   ·rw [aX hw]at h6 ⊢
    exact⟨fun _ _=>trivial,ih _ _ _ S _ c hu' hfree' hcle (h.step ho' hdNN huq hwait h1 hun hdpp (gz.refl p7 _ _) (fun _ hb=>hb.elim) h.sat h.own (fun _ _=>rfl) h6 hch')⟩
  |true=>
   simp only [ve]at h5
   -- it is the next one of the chain
   have hca:gV es i=c:=by
    have hn: ¬gV es i<c:=fun hlt=>by rw [(h.chain i he).2 hlt]at hun';cases hun'
    rcases nL c (gV es i)with hlt|hge
    ·exfalso
     obtain⟨k,hk1,hk2,hk3⟩:=wQ hlt
     have hkd:done.getD k false=true:=gF h.down _ i k hwaits (hchain i k hk1 he hk2)
     have:=(h.chain k hk2).1 hkd
     omega
    ·omega
   subst hca
   have h6:=h5 σ a w S h.sat h.own hF hbl
   have hch' : ∀k,es[k]? =some true→((done.setIfInBounds i true).getD k false=true↔gV es k<gV es i+1):=fun k hk=>by
    by_cases hik:i=k
    ·subst hik
     constructor
     ·intro _;omega
     ·intro _;simp [his]
    ·rw [vk false hik,h.chain k hk]
     constructor
     ·intro h;omega
     ·intro hlt
      rcases nL i k with hlk|hlk
      ·have:=FD hlk he;omega
      ·exact FD (by omega) hk
   have hcle' :gV es i+1≤gV es es.length:=FD (by omega) he
   by_cases hw:Region.wanted o (yielded (l++t).toArray a.tmps)=true
   ·rw [bk hw]at h6 ⊢
    refine lk (fun a' w' ⟨v,S',x,ha,hx,hs,hown,hv⟩=>?_) h6
    subst ha
    exact ih _ _ _ S' _ _ hu' hfree' hcle' (h.step ho' hdNN huq hwait h1 hun hdpp hx (fun b ⟨f,hf,hb⟩=>(cZ.mem h.own f hf).2 b hb) hs hown (fun k hk=>Eh σ x hk) hv hch')
   ·rw [aX hw]at h6 ⊢
    obtain⟨x,hown,hv⟩:=h6
    exact⟨fun _ _=>trivial,ih _ _ _ S _ _ hu' hfree' hcle' (h.step ho' hdNN huq hwait h1 hun hdpp (gz.refl p7 _ _) (fun _ hb=>hb.elim) h.sat hown (fun k hk=>Eh σ x hk) hv hch')⟩
theorem oy{id:Nat}(m:Nat)(ts:List TS)(es:List Bool)(Ss:List ((Nat→OI)→List OE))(hO:Ss[0]? =some fun _=>O)(hm:E.P.follows .mixedOrders=true)(hsl:xJ E.N.n [] (L.take m)=true)(hlen:ts.length=(L.take m).length)(hesl:es.length=(L.take m).length)(hch:Nw L es=true)(ht:zx L (L.take m).length (L.drop m).length=true)(hd:DS E G L ts Ss es 0 0 (L.take m) es)(k: ∀σ:Nat→OI,RG E L.toArray Q (L.drop m) (QZ Ss (gV es es.length) σ) (Ks (L.take m) (TD ts σ) G)):CG E Q (.region id L.toArray true) O G:=fun a w S st=>by
 have hL:L=L.take m++L.drop m:=(ut m L).symm
 generalize L.take m=l at hL hsl hlen hesl ht hd k
 generalize L.drop m=t at hL ht k
 subst hL
 refine wpIn_region_any hm ?_
 obtain⟨he,hs⟩:=yq (w:=w) st.sat
 have hO0:QZ Ss 0 (fun _=>pj)=O:=by unfold QZ;rw [hO]
 refine JF hsl hlen hesl hd hch ht (fun a w S σ st=>k σ a w S st) _ _ _ _ S (fun _=>pj) 0 ?_ (fun j _=>?_) (mA _)
  ⟨st.ext.step0 he,hs,by rw [hO0];exact st.own.ext0 he,st.facts.size,st.facts.defers,by simp,fun j o hj hdone=>?_,fun k t hk _=>st.facts.at_ k t hk,fun j o d t hj hdone=>?_,fun j p hdone=>?_,fun k _=>⟨fun hdone=>?_,fun h=>(by omega)⟩⟩
 ·unfold lH;rw [NV,NT];simp
 ·simp [zY];split<;>rfl
 ·simp [zY]at hdone
  split at hdone<;>simp at hdone
 ·simp [zY]at hdone
  split at hdone<;>simp at hdone
 ·simp [zY]at hdone
  split at hdone<;>simp at hdone
 ·simp [zY]at hdone
  split at hdone<;>simp at hdone
theorem z7{p:Nat→(Nat→OI)→Prop}{lo:Nat}(h: ∀σ,p lo σ): ∀c σ,lo≤c→c≤lo→p c σ:=fun c σ h1 h2=>by
 have:c=lo:=by omega
 subst this;exact h σ
theorem F3{p:Nat→(Nat→OI)→Prop}{lo hi:Nat}(h: ∀σ,p lo σ)(k: ∀c σ,lo+1≤c→c≤hi→p c σ): ∀c σ,lo≤c→c≤hi→p c σ:=fun c σ h1 h2=>by
 by_cases e:c=lo
 ·subst e;exact h σ
 ·exact k c σ (by omega) h2
variable{post:OI→List OE}
theorem BB{op:Op}{ty:TypeId}(hnd: ∀c,op≠ .defer c)(h: ∀a w S,jL w S→cZ E.base E.B w S O→di E.N S a G→E.base≤w.heap.size→ ∃w' S' x,(execOp a.eval ⟨none,op,ty,pos,after,g⟩).run E.P w= .ok .skip w' ∧gz (An O) w S w' S' ∧jL w' S' ∧cZ E.base E.B w' S' (post x)):
  EffOK E O G ⟨none,op,ty,pos,after,g⟩ post (fun _=>AX):=fun a w S hs ho hf hb=>by
 obtain⟨w',S',x,h1,h2,h3,h4⟩:=h a w S hs ho hf hb
 refine⟨hnd,?_⟩
 rw [h1]
 exact⟨undef,S',x,rfl,h2,h3,h4,trivial⟩

abbrev HL:=List (Nat×Value)
def Bi:HL→Nat→Option Value
 |[],_=>none
 |p::hs,o=>bif Nat.beq p.1 o then some p.2 else Bi hs o
theorem yR: ∀{hs:HL} {o:Nat} {v:Value},Bi hs o=some v→(o,v)∈hs
 |[],_,_,h=>by cases h
 |p::hs,o,v,h=>by
  unfold Bi at h
  by_cases hb:Nat.beq p.1 o=true
  ·rw [hb]at h
   have e1:=oV hb
   have e2:p.2=v:=p5 h
   subst e1 e2
   exact lb ..
  ·rw [zW]at hb
   rw [hb]at h
   exact lc _ (yR h)
def rH{α:Type}(r:Rp α)(hs:HL):Rp α where
 sz:=r.sz
 agg:=r.agg
 rc:=fun S cs x=>r.rc S cs x∧ ∀p∈hs,cs[p.1]? =some p.2
 mono:=fun h k=>⟨r.mono h k.1,k.2⟩
 len:=fun k=>r.len k.1
 one:=fun k=>r.one k.1
 sc:=r.sc
variable{off:Nat}
theorem Uz{hs:HL}{get:α→β}(h:pY r off q get):pY (rH r hs) off q get:=fun S cs x k=>h S cs x k.1
theorem QF(h:cs[off]? =some v):(cs.drop off).take 1=[v]:=by
 have hlt:=(jP.1 h).1
 rw [xu hlt,(jP.1 h).2]
 rfl
theorem acV{hs:HL}(h:Bi hs off=some v):pY (rH r hs) off rV (fun _=>v):=fun S cs x k=>by
 have h1:=k.2 _ (yR h)
 exact⟨QF h1,r.one k.1 v (sM h1)⟩
def HZ(z:List Value):HL→Prop
 |[]=>True
 |p::hs=>z[p.1]? =some p.2∧HZ z hs
theorem HZ.all: ∀{hs:HL},HZ z hs→ ∀p∈hs,z[p.1]? =some p.2
 |_::_,⟨h,_⟩,_,.head _=>h
 |_::_,⟨_,h⟩,_,.tail _ hm=>HZ.all h _ hm
theorem zH{x:α}{hs:HL}(h: ∀S,r.rc S z x)(k:HZ z hs): ∀S,(rH r hs).rc S z x:=fun S=>⟨h S,k.all⟩
def Yy(hs:HL)(off sz:Nat):Bool:=hs.all fun p=>Nat.blt p.1 off||Nat.ble (off+sz) p.1
def HOK(hs:HL)(off sz:Nat)(v:Option Value):HL→Prop
 |[]=>True
 |p::l=>((v=some p.2∧p.1=off∧sz=1)∨(Bi hs p.1=some p.2∧(Nat.blt p.1 off||Nat.ble (off+sz) p.1)=true))∧HOK hs off sz v l
theorem HOK.all{hs:HL}{v:Option Value}: ∀{l:HL},HOK hs off sz v l→ ∀p∈l,(v=some p.2∧p.1=off∧sz=1)∨(Bi hs p.1=some p.2∧(Nat.blt p.1 off||Nat.ble (off+sz) p.1)=true)
 |_::_,⟨h,_⟩,_,.head _=>h
 |_::_,⟨_,h⟩,_,.tail _ hm=>HOK.all h _ hm
theorem Dh{ds:List Value}(hl:ds.length=sz)(hoff:off+sz≤cs.length)(h:(Nat.blt k off||Nat.ble (off+sz) k)=true):(cs.take off++ds++cs.drop (off+sz))[k]? =cs[k]? :=by
 simp only [qO,vY,Nat.ble_eq]at h
 have ht:(cs.take off).length=off:=by simp;omega
 rcases h with h|h
 ·rw [B0 (by simp;omega),B0 (by omega),BZ h]
 ·rw [uX (by simp;omega),xr]
  congr 1
  simp only [jx,ht,hl];omega
theorem SR{ds:List Value}(hd:ds=[v])(hoff:off+1≤cs.length):(cs.take off++ds++cs.drop (off+1))[off]? =some v:=by
 subst hd
 have ht:(cs.take off).length=off:=by simp;omega
 rw [B0 (by simp;omega),uX (by omega),ht,zT]
 rfl
theorem WM{hs:HL}{set:α→β→α}(h:j5 r off q set)(hk:Yy hs off q.sz=true)(hoff:Nat.ble (off+q.sz) r.sz=true):j5 (rH r hs) off q set:=fun S cs x ds y h1 h2=>by
 refine⟨h S cs x ds y h1.1 h2,fun p hp=>?_⟩
 have hl:=r.len h1.1
 rw [Dh (q.len h2) (by have:=oP hoff;omega) (ki.1 hk p hp)]
 exact h1.2 _ hp
variable{U:TypeId}{V:MV β}{cap:Nat}{ops:Array Oper}{r' :Rp α}{rest:List Oper}{γ:β→Ty}
section
variable{e:Exit}
section
variable{ty:TypeId}
theorem nd{op:Op}{t:OI→Ty}(h:EffOK E O G ⟨none,op,ty,pos,after,none⟩ post t)(k: ∀x,RG E ops Q rest (post x) G):RG E ops Q (⟨none,op,ty,pos,after,none⟩::rest) O G:= .of rfl fun a w S st=>
 oC (fun a' w' ⟨v,S',x,ha,hx,hs,ho,hv⟩=>by
  subst ha
  exact k x _ _ S' ⟨st.ext.step hx fun b ⟨f,hf,hb⟩=>(cZ.mem st.own f hf).2 b hb,hs,ho,st.facts.mono hx.keep⟩) (h a w S st.sat st.own st.facts st.base_le)
theorem mZ{γ:Type}{r' :Rp γ}{x:α}{x' :γ}{v:Operand}(ti:TI E.P U sz bytes agg z)(hsz:q.sz=sz)(hset:qM r r' off q x y x')(hoff:Nat.ble (off+q.sz) r.sz=true)(hp:aO E.N G p (tV (aS b off)))(hv:aO E.N G v (tD q y)):EffOK E (bx r T b x::O) G ⟨none,.store U p v,ty,pos,after,g⟩ (fun _=>bx r' T b x' ::O) (fun _=>AX):=BB (fun _ h=>(by cases h)) fun a w S hs ho hf hb=>by
 have h1:a.eval p=aS b off:=hp S a hf
 obtain⟨ds,h2,h3⟩:=hv S a hf
 obtain⟨⟨hno,cur,h5,h6⟩,_⟩:=ho.1
 have hl:=r.len h6
 have hoff' :=oP hoff
 obtain⟨w',hr,e1,e2,e3,e4,e5,e6⟩:=jW ti hsz h3 h5 (off:=off) (by simp at hl;omega)
 have hrun:(execOp a.eval ⟨none,.store U p v,ty,pos,after,g⟩).run E.P w= .ok .skip w' :=by
  simp [execOp,h1,h2,Instr.storeAt,aS,Instr.sureAddr,hr]
 obtain⟨g1,g2,g3⟩:=pS (O:=O) hs (bx r T b x) (bx r' T b x') ho (fun _=>vi) (fun _=>vi) ⟨e1,e2,e3,e4.1,e4.2⟩ e6 ⟨hno,_,e5,by simpa using hset S _ _ h6 h3⟩ hno
 exact⟨w',S,pj,hrun,g1.more fun k hk=>⟨_,lb ..,hk⟩,g2,g3⟩
theorem wJ{set:α→β→α}{hs hs' :HL}{x:α}{v:Operand}(ti:TI E.P U 1 bytes false z)(hsz:q.sz=1)(hag:q.agg=false)(hset:j5 r off q set)(hoff:Nat.ble (off+1) r.sz=true)(hk:HOK hs off 1 (some u) hs')(hp:aO E.N G p (tV (aS b off)))(hv:aO E.N G v (tD q y))(hu:aO E.N G v (tV u)):EffOK E (bx (rH r hs) T b x::O) G ⟨none,.store U p v,ty,pos,after,g⟩ (fun _=>bx (rH r hs') T b (set x y)::O) (fun _=>AX):=BB (fun _ h=>(by cases h)) fun a w S hsat ho hf hb=>by
 have h1:a.eval p=aS b off:=hp S a hf
 obtain⟨ds,h2,h3⟩:=hv S a hf
 have hu' :a.eval v=u:=hu S a hf
 obtain⟨⟨hno,cur,h5,h6⟩,_⟩:=ho.1
 have hl:=r.len h6.1
 have hoff' :=oP hoff
 have hdl:=q.len h3
 have hds:ds=[u]:=by
  obtain⟨d,hd⟩:=List.length_eq_one_iff.1 (by rw [hdl,hsz]:ds.length=1)
  subst hd
  have e1:q.val [d]=d:=by simp [Rp.val,hag]
  rw [h2,e1]at hu'
  rw [hu']
 obtain⟨w',hr,e1,e2,e3,e4,e5,e6⟩:=jW ti hsz h3 h5 (off:=off) (by simp at hl;omega)
 have hrun:(execOp a.eval ⟨none,.store U p v,ty,pos,after,g⟩).run E.P w= .ok .skip w' :=by
  simp [execOp,h1,h2,Instr.storeAt,aS,Instr.sureAddr,hr]
 rw [hsz]at e5
 have hnew:(rH r hs').rc S (cur.toList.take off++ds++cur.toList.drop (off+1)) (set x y):=by
  have h7:=hset S _ _ _ _ h6.1 h3
  rw [hsz]at h7
  refine⟨h7,fun p hp=>?_⟩
  rcases hk.all p hp with⟨f1,f2,_⟩|⟨f1,f2⟩
  ·rw [f2]
   exact SR (by rw [hds,p5 f1]) (by omega)
  ·rw [Dh (by rw [hdl,hsz]) (by omega) f2]
   exact h6.2 _ (yR f1)
 obtain⟨g1,g2,g3⟩:=pS (O:=O) hsat (bx (rH r hs) T b x) (bx (rH r hs') T b (set x y)) ho (fun _=>vi) (fun _=>vi) ⟨e1,e2,e3,e4.1,e4.2⟩ e6 ⟨hno,_,e5,by simpa using hnew⟩ hno
 exact⟨w',S,pj,hrun,g1.more fun k hk=>⟨_,lb ..,hk⟩,g2,g3⟩
end
section
variable{ty:TypeId}
theorem RF{hs:HL}{x:α}(ti:TI E.P U 1 bytes false z)(hk:Bi hs off=some u)(hm:bx (rH r hs) T b x∈O)(hp:aO E.N G p (tV (aS b off))):
  bZ E O G ⟨dst,.load U p,ty,pos,after,g⟩ (tV u):=(bE (q:=rV) ti rfl rfl (acV hk) hm hp).imp fun _ _ h=>(wj.1 h).1
theorem dx{q:Rp α}{r:Rp β}{hs:HL}{x:β}{V:TypeId}{l:Option Nat}{xs:List α}(ti:TI E.P U 1 bytes false z)(hk:Bi hs off=some (bc l cap xs.length))(hm:bx (rH r hs) T b x∈O)(hm2:ez q V l cap xs∈O)(hp:aO E.N G p (tV (aS b off))):
  bZ E O G ⟨dst,.load U p,ty,pos,after,g⟩ (tO q l cap xs):=fun a w S hs' ho hf=>
 oC (fun _ _ ⟨v,S',h1,h2,h3,h4⟩=>⟨v,S',h1,h2,h3,h4,by
  have h5:v=bc l cap xs.length:=h4
  rw [h5]
  exact qe (((ho.ext0 h2).mem _ hm2).1)⟩) (RF (g:=g) (ty:=ty) (pos:=pos) (after:=after) (dst:=dst) ti hk hm hp a w S hs' ho hf)
theorem Ui{t:Ty}(h1: ∀S v,t.p S v→v.oneCell' =true)(hx:aO E.N G x t):bZ E O G ⟨dst,.box T x,ty,pos,after,g⟩ (bN (rT t) ()):=
 MW (fun S a hf=>tRT.2 ⟨h1 _ _ (hx S a hf),hx S a hf⟩)
end
def TW:HL→HL→Prop
 |[],_=>True
 |p::l,hs=>Bi hs p.1=some p.2∧TW l hs
theorem TW.all{hs:HL}: ∀{l:HL},TW l hs→ ∀p∈l,p∈hs
 |_::_,⟨h,_⟩,_,.head _=>yR h
 |_::_,⟨_,h⟩,_,.tail _ hm=>TW.all h _ hm
end

variable{O' :List OE}
theorem EffOK.perm{t:OI→Ty}(h:EffOK E O' G o post t)(k: ∀{w S},cZ E.base E.B w S O→cZ E.base E.B w S O')(m: ∀f∈O',f∈O):EffOK E O G o post t:=fun a w S hs ho hf hb=>
 oC (fun _ _ ⟨v,S',x,h1,h2,h3,h4,h5⟩=>⟨v,S',x,h1,h2.more fun _ ⟨f,hf,hk⟩=>⟨f,m f hf,hk⟩,h3,h4,h5⟩) (h a w S hs (k ho) hf hb)
variable{x0 x1 x2 x3 x4:OE}
namespace EffOK
section
variable{t:OI→Ty}
theorem fr1(h:EffOK E (x1::x0::O) G o post t):EffOK E (x0::x1::O) G o post t:=h.perm (fun hw=>cZ.swap hw) (fun f hf=>by simp only [gk]at hf ⊢;rcases hf with h|h|h<;>simp [h])
theorem fr2(h:EffOK E (x2::x0::x1::O) G o post t):EffOK E (x0::x1::x2::O) G o post t:=h.perm (fun hw=>uk hw) (fun f hf=>by simp only [gk]at hf ⊢;rcases hf with h|h|h|h<;>simp [h])
theorem fr3(h:EffOK E (x3::x0::x1::x2::O) G o post t):EffOK E (x0::x1::x2::x3::O) G o post t:=h.perm (fun hw=>uj hw) (fun f hf=>by simp only [gk]at hf ⊢;rcases hf with h|h|h|h|h<;>simp [h])
theorem fr4(h:EffOK E (x4::x0::x1::x2::x3::O) G o post t):EffOK E (x0::x1::x2::x3::x4::O) G o post t:=h.perm (fun hw=>ui hw) (fun f hf=>by simp only [gk]at hf ⊢;rcases hf with h|h|h|h|h|h<;>simp [h])
theorem fr6{x5 x6:OE}(h:EffOK E (x6::x0::x1::x2::x3::x4::x5::O) G o post t):EffOK E (x0::x1::x2::x3::x4::x5::x6::O) G o post t:=h.perm (fun hw=>uh hw) (fun f hf=>by simp only [gk]at hf ⊢;rcases hf with h|h|h|h|h|h|h|h<;>simp [h])
theorem fr7{x5 x6 x7:OE}(h:EffOK E (x7::x0::x1::x2::x3::x4::x5::x6::O) G o post t):EffOK E (x0::x1::x2::x3::x4::x5::x6::x7::O) G o post t:=h.perm (fun hw=>ug hw) (fun f hf=>by simp only [gk]at hf ⊢;rcases hf with h|h|h|h|h|h|h|h|h<;>simp [h])
theorem post_imp{post' :OI→List OE}(h:EffOK E O G o post t)(k: ∀{w S x},cZ E.base E.B w S (post x)→cZ E.base E.B w S (post' x)):EffOK E O G o post' t:=fun a w S hs ho hf hb=>
 oC (fun _ _ ⟨v,S',x,h1,h2,h3,h4,h5⟩=>⟨v,S',x,h1,h2,h3,k h4,h5⟩) (h a w S hs ho hf hb)
end
end EffOK
variable{ats:Array TypeId}{mm:Bool}
section
variable{ty:TypeId}
theorem Np{xs zs:List α}{y v:α}{i:Int}(ti:TI E.P U sz bytes agg z)(hsz:r.sz=sz)(hy:de xs i=some y)(hz:xs.set i.toNat v=zs)(hp:aO E.N G p (tV (aS b (i.toNat*r.sz))))(hv:aO E.N G x (tD r v)):EffOK E (bx (n8 r n) T b xs::O) G ⟨none,.store U p x,ty,pos,after,g⟩ (fun _=>bx (n8 r n) T b zs::O) (fun _=>AX):=BB (fun _ h=>(by cases h)) fun a w S hsat hown hf hbase=>by
 subst hz
 have h1:a.eval p=aS b (i.toNat*r.sz):=hp S a hf
 obtain⟨ds,h2,h3⟩:=hv S a hf
 obtain⟨⟨hno,cur,h5,h6⟩,_⟩:=hown.1
 obtain⟨h0,hy'⟩:=lC hy
 have hlt:i.toNat<xs.length:=(jP.1 hy').1
 have hl:=pb h6.2
 simp only [D8]at hl
 have hmul:i.toNat*r.sz+r.sz≤xs.length*r.sz:=by rw [←CN];exact zd _ hlt
 obtain⟨w',hr,e1,e2,e3,e4,e5,e6⟩:=jW ti hsz h3 h5 (off:=i.toNat*r.sz) (by omega)
 have hrun:(execOp a.eval ⟨none,.store U p x,ty,pos,after,g⟩).run E.P w= .ok .skip w' :=by
  simp [execOp,h1,h2,Instr.storeAt,aS,Instr.sureAddr,hr]
 obtain⟨g1,g2,g3⟩:=pS (O:=O) hsat (bx (n8 r n) T b xs) (bx (n8 r n) T b (xs.set i.toNat v)) hown (fun _=>vi) (fun _=>vi) ⟨e1,e2,e3,e4.1,e4.2⟩ e6 ⟨hno,_,e5,by rw [Gy];exact h6.1,A7 h3 h6.2 hlt⟩ hno
 exact⟨w',S,pj,hrun,g1.more fun c hc=>⟨_,lb ..,hc⟩,g2,g3⟩

section
theorem vL{x:α}(ti:TI E.P T sz bytes agg z)(hx: ∀S,r.rc S z x):
  EffOK E O G ⟨some d,.alloc T,ty,pos,after,g⟩ (fun i=>bx r T (i.h 0).2 x::O) (fun i=>tV (aS (i.h 0).2 0)):=fun a w S hs ho hf hb=>by
 obtain⟨zv,hzr,hzc⟩:=ti.zero w
 obtain⟨he,hs',hno⟩:=gy (w:=w) (.cells z.toArray T (0,0)) hs
 have hrun:(execOp a.eval ⟨some d,.alloc T,ty,pos,after,g⟩).run E.P w= .ok (.value (aS w.heap.size 0)) (w.alloc (.cells z.toArray T (0,0))):=by
  simp [execOp,Instr.alloc,hzr,newVar,newRow,hzc,aS]
 refine⟨fun c h=>(by cases h),?_⟩
 rw [hrun]
 exact⟨_,S,oi none w.heap.size,rfl,he.more fun _ hb=>hb.elim,hs',qn ho he (e:=bx r T w.heap.size x) ⟨hno,z.toArray,xv w _,by simpa using hx S⟩ (fun b hb=>AK hb.symm) hb,rfl⟩
theorem Hh(hc:an E.P f=true)(hs:gA E.P f ts false r T ys)(hx:j6 E.N G xs ts):
  EffOK E O G ⟨some d,.call ⟨.value (.func f),xs.toArray,ats⟩,ty,pos,after,g⟩ (fun i=>fL r T (i.h 0).1 (i.h 0).2 ys::O) (fun i=>tV (bc (i.h 0).1 (i.h 0).2 ys.length)):=Qz (mm:=false) hc hs hx (fun _ _ _ _ _=>rfl)
end
section
theorem nF{l:Option Nat}{o i:Nat}{xs:List α}{y:α}{j:Int}(hf:da E.P T i=some (off,sz))(h0:Nat.beq sz 0=false)(hm:mB mm r U l cap xs∈O)(hy:de xs j=some y)(hp:aO E.N G p (tV (p8 l o)))(he:o+off=n):
  bZ E O G ⟨dst,.fieldAddr T p i,ty,pos,after,g⟩ (tV (p8 l n)):=by
 subst he
 exact Gj hf h0 hm hy hp
theorem dQ(hx:aO E.N G x (tV (aS b off))):bZ E O G ⟨dst,.nilCheck x,ty,pos,after,g⟩ (tV (aS b off)):= .of_pure fun a w S _ _ hf=>by
 have h1:a.eval x=aS b off:=hx S a hf
 exact⟨aS b off,by simp [execOp,h1,aS],rfl⟩
theorem Ip{y:α}(hx:aO E.N G x (bN r y)):bZ E O G ⟨dst,.nilCheck x,ty,pos,after,g⟩ (bN r y):= .of_pure fun a w S _ _ hf=>by
 have h0:=hx S a hf
 obtain⟨b,off,c,U,fr,h1,h2,h3⟩:=h0
 exact⟨_,by simp [execOp,h1],b,off,c,U,fr,rfl,h2,h3⟩
theorem tQ(ti:TI E.P U 1 bytes false z)(hm:bx rV T b u∈O)(hp:aO E.N G p (tV (aS b 0))):
  bZ E O G ⟨dst,.load U p,ty,pos,after,g⟩ (tV u):=(bE (q:=rV) (get:=fun x=>x) ti rfl rfl bw hm hp).imp fun _ _ h=>(wj.1 h).1
theorem ly{t:Ty}(ti:TI E.P U 1 bytes false z)(hp:aO E.N G p (bN (rT t) ())):bZ E O G ⟨dst,.load U p,ty,pos,after,g⟩ t:=vD ti hp
end
theorem FH(h:O=O')(k:RG E ops Q rest O' G):RG E ops Q rest O G:=by subst h;exact k
theorem TB{e:Exit}(h:O=O')(k:AT E Q e O' G):AT E Q e O G:=by subst h;exact k
theorem hW{N:Fr}(h:aO N G x (tV u))(ho:u.oneCell' =true):aO N G x (tD rV u):=fun S a hf=>wj.2 ⟨h S a hf,ho⟩
theorem hTT{N:Fr}{t:Ty}(h1: ∀S v,t.p S v→v.oneCell' =true)(h:aO N G x t):aO N G x (tD (rT t) ()):=fun S a hf=>tRT.2 ⟨h1 _ _ (h S a hf),h S a hf⟩
end

theorem JR{l:Option Nat}{xs:List α}{t' e' :TypeId}(ht:P.underlying t' =some (.slice e'))(h:CA mm r U l cap xs w S)(hs:dP xs lo (xs.length:Int)=some ys):
  ∃news,Src P r.sz t' (oQ r.sz l cap lo.toNat ys.length) ys.length news w∧u9 r S news ys:=by
 obtain⟨cells,h1,h2,_⟩:=h
 obtain⟨lo',m,rfl,hm,h3,h4,rfl⟩:=ii hs
 have hm' :m=xs.length:=by omega
 subst hm'
 rw [xy,AH]
 cases l with
 |none=>
  have hx:xs=[]:=uu h1.1
  subst hx
  exact⟨[],by simpa [oQ] using Src.ofNil w ht 0,by simp [u9]⟩
 |some b=>
  obtain⟨cur,g1,g2,g3,g4,g5⟩:=h1
  have hlen:(xs.drop lo').length=xs.length-lo' :=by simp
  have hcl:=pb h2
  have hsp:xs=xs.take lo' ++xs.drop lo' :=(ut lo' xs).symm
  have htl:(xs.take lo').length=lo' :=by simp;omega
  have hr:u9 r S (cells.drop (lo' *r.sz)) (xs.drop lo'):=by
   rw [hsp]at h2
   have:=(q7 h2).2
   rwa [htl]at this
  have hmul:lo' *r.sz≤xs.length*r.sz:=zd _ h3
  refine⟨cells.drop (lo' *r.sz),?_,hr⟩
  unfold oQ
  refine Src.ofSlice w ht _ _ _ _ (pb hr) (fun j u hu=>?_) (DH hr)
  by_cases hc:cap=lo'
  ·have:xs.drop lo' =[]:=D5 (by omega)
   rw [this]at hr
   have hr' :cells.drop (lo' *r.sz)=[]:=hr
   rw [hr']at hu;simp at hu
  ·simp only [hc,eT]
   rw [jK,BK g1]
   rw [xr,←g5]at hu
   have hj:lo' *r.sz+j<xs.length*r.sz:=by
    have:=(jP.1 hu).1
    simp at this;omega
   rw [BZ hj]at hu
   simpa using hu
section
variable{ty:TypeId}
theorem Ht{l:Option Nat}{xs:List α}{yt:TypeId}(ht:E.P.underlying t=some (.slice e))(hm:mB mm r U l cap xs∈O)(hs:dP xs lo (xs.length:Int)=some ys)(hx:aO E.N G x (tV (oQ r.sz l cap lo.toNat ys.length)))(hd:Nat.blt d E.N.n=true)(k: ∀b,(b=true→ys=[])→RG E ops Q rest O ((d,tD rB b)::G)):RG E ops Q (⟨some d,.binOp .eql t x (.const (.slice none 0 0)) yt,ty,pos,after,none⟩::rest) O G:= .of rfl fun a w S st=>by
 have h1:a.eval x=oQ r.sz l cap lo.toNat ys.length:=hx S a st.facts
 obtain⟨⟨cells,hraw,_⟩,_⟩:=st.own.mem _ hm
 have hcn:a.eval (.const (.slice none 0 0))= .slice none 0 0:=rfl
 cases l with
 |none=>
  have hx0:xs=[]:=uu hraw.1
  have hy0:ys=[]:=by
   obtain⟨lo',m,_,_,_,_,rfl⟩:=ii hs
   subst hx0;simp
  have h3:(Op.equal t (.slice none 0 0) (.slice none 0 0)).run E.P w= .ok true w:=A2 fun d=>by
   simp [Op.equalIn,lF ht]
  have hrun:(execOp a.eval ⟨some d,.binOp .eql t x (.const (.slice none 0 0)) yt,ty,pos,after,none⟩).run E.P w= .ok (.value (.bool true)) w:=by
   simp [execOp,h1,oQ,hcn,eqGuard,binOp,h3]
  refine⟨fun c h=>(by cases h),?_⟩
  rw [hrun]
  exact k true (fun _=>hy0) _ _ S (st.step (gz.refl _ _ _) st.sat hd (jb.2 rfl))
 |some b=>
  obtain⟨ad,hv⟩: ∃ad,oQ r.sz (some b) cap lo.toNat ys.length= .slice (some ad) ys.length (cap-lo.toNat):=⟨_,rfl⟩
  have h3:(Op.equal t (.slice (some ad) ys.length (cap-lo.toNat)) (.slice none 0 0)).run E.P w= .ok false w:=A2 fun d=>by
   simp [Op.equalIn,lF ht]
  have hrun:(execOp a.eval ⟨some d,.binOp .eql t x (.const (.slice none 0 0)) yt,ty,pos,after,none⟩).run E.P w= .ok (.value (.bool false)) w:=by
   simp [execOp,h1,hv,hcn,eqGuard,binOp,h3]
  refine⟨fun c h=>(by cases h),?_⟩
  rw [hrun]
  exact k false (fun e=>(by cases e)) _ _ S (st.step (gz.refl _ _ _) st.sat hd (jb.2 rfl))
theorem FI{t' :TypeId}{l l2:Option Nat}{cap2:Nat}{xs zs us:List α}{y:Operand}(ti:TI E.P T sz bytes agg z)(hsz:r.sz=sz)(hz:Nat.beq z.length sz=true)(h0:Nat.blt 0 sz=true)(h128:Nat.ble bytes 2048=true)(ht:E.P.underlying t=some (.slice T))(ht' :t' =t)(hd:Nat.blt d E.N.n=true)(hx:aO E.N G x (tV (bc l cap n)))(hm:mB mm r U l2 cap2 us∈fL r T l cap xs::O)(hs:dP us lo (us.length:Int)=some ys)(hy:aO E.N G y (tV (oQ r.sz l2 cap2 lo.toNat ys.length)))(happ:app xs ys=some zs)(k: ∀l' cap',RG E ops Q rest (fL r T l' cap' zs::O) ((d,tV (bc l' cap' zs.length))::G))(hn:n=xs.length:=by rfl):
  RG E ops Q (⟨some d,.call ⟨.builtin .append,#[x,y],#[t,t']⟩,ty,pos,after,none⟩::rest) (fL r T l cap xs::O) G:=by
 subst ht'
 exact Aw (u:=fun cap' l' =>tV (bc l' cap' zs.length)) ti hsz hz h0 h128 ht hd hx (fun a w S st=>by
  have h1:a.eval y=oQ r.sz l2 cap2 lo.toNat ys.length:=hy S a st.facts
  rw [h1]
  exact JR ht (st.own.mem _ hm).1 hs) happ (fun _ _ _ _ _=>rfl) k hn
end

abbrev PE(α X:Type):=(σ:Type)→(α→σ→Option (Bool×σ))→σ→Option (σ×X)
def PF(P:Program){α X:Type}(args:α→List Ty)(it:PE α X)(Ob:X→OI→List OE)(fid:FuncId)(cap:Array Value)(fp:Nat→Prop)(w:World)(S:SH):Prop:=
 ∀(σ:Type) (y:α→σ→Option (Bool×σ)) (s:σ) (R:σ×X),it σ y s=some R→ ∀I yv,Zv P args y I yv→ ∀e,I s e→e.p w S→(∀k,e.fp k→ ¬fp k)→
  Calls P fid (#[yv]++cap) w fun en w' => ∃e' S' j,(∃v,en= .returned v)∧I R.1 e' ∧gz (fun k=>e.fp k∨fp k) w S w' S' ∧jL w' S' ∧e'.p w' S' ∧cZ 0 p7 w' S' (Ob R.2 j)∧(∀k,e'.fp k∨An (Ob R.2 j) k→(e.fp k∨fp k)∨w.heap.size≤k)∧ ∀k,e'.fp k→ ¬An (Ob R.2 j) k
def IC(P:Program){α X:Type}(args:α→List Ty)(it:PE α X)(Ob:X→OI→List OE)(v:Value)(fp:Nat→Prop):OE where
 fp:=fp
 p:=fun w S=>(∀k,fp k→k<w.heap.size)∧ ∃fid cap,v= .func (.func fid) #[] cap∧an P fid=true∧
  ∀C w' S',gz C w S w' S' →(∀k,fp k→ ¬C k)→jL w' S' →PF P args it Ob fid cap fp w' S'
 here:=fun h k hk=>h.1 k hk
 kept:=by
  rintro C w w' S S' ⟨h1,fid,cap,h2,h3,h4⟩ k hC
  refine⟨fun b hb=>xq (h1 b hb) k.size,fid,cap,h2,h3,fun C' w'' S'' k' hC' hs=>?_⟩;exact h4 (fun b=>C b∨C' b) w'' S'' ((k.more fun b hb=> .inl hb).trans (k'.more fun b hb=> .inr hb)) (fun b hb h=>h.elim (hC b hb) (hC' b hb)) hs
def Z1:Unit→OI→List OE:=fun _ _=>[]
def itU{α:Type}(it:It α):PE α Unit:=fun σ y s=>(it σ y s).map fun r=>(r,())
variable{args:α→List Ty}{fp:Nat→Prop}
theorem Z8{it:It α}(h:(WY P args it v fp).p w S):(IC P args (itU it) Z1 v fp).p w S:=by
 obtain⟨h1,fid,cap,h2,h3,h4⟩:=h
 refine⟨h1,fid,cap,h2,h3,fun C w' S' k hC hs σ y s R hit I yv hy e he hep hap=>?_⟩
 unfold itU at hit
 cases hq:it σ y s with
 |none=>rw [hq]at hit;cases hit
 |some s' =>
  rw [hq]at hit
  obtain rfl:(s',())=R:=by simpa using hit
  refine(h4 C w' S' k hC hs σ y s s' hq I yv hy e he hep hap).mono ?_
  rintro en w2 ⟨e',S2,g1,g2,g3,g4,g5,g6⟩
  exact⟨e',S2,pj,g1,g2,g3,g4,g5,trivial,fun k hk=>hk.elim (fun h=>(g6 k h).imp .inl id) (fun⟨_,h,_⟩=>by cases h),fun k _ ⟨_,h,_⟩=>by cases h⟩
section
variable{it:It α}
theorem Zy(h:CG E Q c (IC P args (itU it) Z1 v fp::O) G):CG E Q c (WY P args it v fp::O) G:=fun a w S st=>h a w S (st.own_map fun⟨⟨g1,g2⟩,g3,g4⟩=>⟨⟨Z8 g1,g2⟩,g3,g4⟩)
end

def BT(P:Program)(fid:FuncId){α X:Type}(args:α→List Ty)(it:PE α X)(Ob:X→OI→List OE)(O:List OE)(cts:List Ty):Prop:=
 ∀w S cap,jL w S→cZ 0 p7 w S O→xl S cts cap→PF P args it Ob fid cap.toArray (An O) w S
def SL(E:En){σ X:Type}(I:σ→OE→Prop)(R:σ×X)(Ob:X→OI→List OE):Ending→World→Prop:=fun en w' => ∃e' S' j,(∃v,en= .returned v)∧I R.1 e' ∧gz E.B E.w0 E.S0 w' S' ∧jL w' S' ∧e'.p w' S' ∧cZ 0 p7 w' S' (Ob R.2 j)∧(∀k,e'.fp k∨An (Ob R.2 j) k→E.B k∨E.w0.heap.size≤k)∧ ∀k,e'.fp k→ ¬An (Ob R.2 j) k
variable{B:Nat→Prop}{X:Type}{Ob:X→OI→List OE}{S0:SH}{fn:Func}{w0:World}
theorem BT.of{it:PE α X}{cts:List Ty}(hf:P.funcs[f]? =some fn)(hb:fn.body=some c)(hN:fn.ntmps=N)(hn:Nat.ble (cts.length+1) N=true)(h: ∀(σ:Type) (y:α→σ→Option (Bool×σ)) (s:σ) (R:σ×X),it σ y s=some R→ ∀I yv,Zv P args y I yv→ ∀e,I s e→ ∀w0 S0 B,(∀k,B k→e.fp k∨ ∃f∈O,f.fp k)→
   CG ⟨P,⟨N,[]⟩,B,w0,S0,none⟩ (bodyPost P fn (SL ⟨P,⟨N,[]⟩,B,w0,S0,none⟩ I R Ob)) c (e::O) (tX 0 (tV yv::cts))):BT P f args it Ob O cts:=by
 subst hN
 intro w S cap hs ho hc σ y s R hit I yv hy e he hep hap
 have hown:cZ w.heap.size (fun k=>e.fp k∨ ∃f∈O,f.fp k) w S (e::O):=
  ⟨⟨hep,fun k hk=> .inr (.inl hk)⟩,fun f hf b hb hfb=>hap b hb ⟨f,hf,hfb⟩,kP ho fun f hf k hk=> .inr (.inr ⟨f,hf,hk⟩)⟩
 have hfacts:=mV (S:=S) (ts:=tV yv::cts) (vs:=yv::cap) ⟨rfl,hc⟩ fn.ntmps (by simpa using oP hn)
 have:=j4.1 (D6 (F:=fw none) (n:=0) hf hb trivial (h σ y s R hit I yv hy e he w S (fun k=>e.fp k∨ ∃f∈O,f.fp k) (fun _ h=>h) _ w S ⟨gz.refl _ _ _,hs,hown,hfacts⟩))
 rw [show(#[yv]++cap.toArray:Array Value)=(yv::cap).toArray from by simp]
 exact this.mono fun en w' ⟨e',S',j,h1,h2,h3,h4,h5,h6,h7,h8⟩=>⟨e',S',j,h1,h2,h3,h4,h5,h6,h7,h8⟩
theorem LW{σ:Type}{I:σ→OE→Prop}{R:σ×X}{e:OE}(hr:fn.results= #[])(he:I R.1 e)(j:OI)(hO:O=Ob R.2 j):
  AT ⟨P,⟨N,[]⟩,B,w0,S0,none⟩ (bodyPost P fn (SL ⟨P,⟨N,[]⟩,B,w0,S0,none⟩ I R Ob)) .ret (e::O) G:=fun _ _ S st=>by
 subst hO
 refine⟨st.facts.defers,_,vu P fn hr _ _,e,S,j,⟨_,rfl⟩,he,st.ext,st.sat,st.own.1.1,st.own.2.2.weak,fun k hk=>?_,fun k hk ⟨f,hf,hfk⟩=>st.own.2.1 f hf k hk hfk⟩
 rcases hk with hk|⟨f,hf,hk⟩
 ·exact(st.own.1.2 k hk).symm
 ·exact((cZ.mem st.own.2.2 f hf).2 k hk).symm
theorem QW{σ:Type}{I:σ→OE→Prop}{R:σ×X}{e:OE}(hr:fn.results= #[])(he:I R.1 e)(j:OI)(hO:O=Ob R.2 j):
  AT ⟨P,⟨N,[]⟩,B,w0,S0,none⟩ (bodyPost P fn (SL ⟨P,⟨N,[]⟩,B,w0,S0,none⟩ I R Ob)) .normal (e::O) G:=fun a w S st=>LW hr he j hO a w S st
def BN(P:Program)(f:FuncId)(ts:List Ty)(O1:List OE){α X:Type}(args:α→List Ty)(it:PE α X)(Ob:X→OI→List OE):Prop:=
 ∀w S vs,jL w S→xl S ts vs→cZ 0 p7 w S O1→Calls P f vs.toArray w fun e w' => ∃v fp S',e= .returned v∧gz (An O1) w S w' S' ∧jL w' S' ∧(IC P args it Ob v fp).p w' S' ∧ ∀k,fp k→An O1 k∨w.heap.size≤k
def SK(E:En)(O1:List OE){α X:Type}(args:α→List Ty)(it:PE α X)(Ob:X→OI→List OE):Ending→World→Prop:=fun e w' => ∃v fp S',e= .returned v∧gz E.B E.w0 E.S0 w' S' ∧jL w' S' ∧(IC E.P args it Ob v fp).p w' S' ∧ ∀k,fp k→An O1 k∨E.w0.heap.size≤k
variable{O1:List OE}
theorem BN.of{it:PE α X}(hf:P.funcs[f]? =some fn)(hb:fn.body=some c)(hN:fn.ntmps=N)(hn:Nat.ble ts.length N=true)(h: ∀w0 S0,CG ⟨P,⟨N,[]⟩,An O1,w0,S0,none⟩ (bodyPost P fn (SK ⟨P,⟨N,[]⟩,An O1,w0,S0,none⟩ O1 args it Ob)) c O1 (tX 0 ts)):BN P f ts O1 args it Ob:=by
 subst hN
 intro w S vs hs hv ho
 exact j4.1 (D6 (F:=fw none) (n:=0) hf hb trivial (h w S _ w S ⟨gz.refl _ _ _,hs,kP ho fun f hf k hk=> .inr ⟨f,hf,hk⟩,mV hv _ (oP hn)⟩))
theorem QV{it:PE α X}(hr:fn.results= #[.tmp k])(hk:dm G k=some (tV v)):
  AT ⟨P,⟨N,[]⟩,An O1,w0,S0,none⟩ (bodyPost P fn (SK ⟨P,⟨N,[]⟩,An O1,w0,S0,none⟩ O1 args it Ob)) .ret (IC P args it Ob v fp::O) G:=fun a w S st=>by
 have hv:a.tmps.getD k undef=v:=st.facts.at_ k _ hk
 exact⟨st.facts.defers,_,nj P fn k hr _ _,v,fp,S,by rw [hv],st.ext,st.sat,st.own.1.1,fun k hk=>(st.own.1.2 k hk).symm⟩
section
variable{ty:TypeId}
theorem NH(O1 Or:List OE){it:PE α X}(hO:O=O1++Or)(hc:an E.P f=true)(hs:BN E.P f ts O1 args it Ob)(hx:j6 E.N G xs ts)(hd:Nat.blt d E.N.n=true)(k: ∀v fp,RG E ops Q rest (IC E.P args it Ob v fp::Or) ((d,tV v)::G)):
  RG E ops Q (⟨some d,.call ⟨.value (.func f),xs.toArray,ats⟩,ty,pos,after,none⟩::rest) O G:= .of rfl fun a w S st=>by
 subst hO
 have hr:(execOp a.eval ⟨some d,.call ⟨.value (.func f),xs.toArray,ats⟩,ty,pos,after,none⟩).run E.P w= .ok (.enter f (xs.map a.eval).toArray) w:=by
  simp [execOp,resolve,Act.eval,Deferred.ofValue,invoke,eU hc]
 refine⟨fun c h=>(by cases h),?_⟩
 rw [hr]
 refine(hs w S _ st.sat (hx.tys st.facts) (nK st.own).1.weak).mono fun e w' ⟨v,fp,S',he,h1,h2,h3,h4⟩=>⟨_,he,?_⟩
 have st' :=st.turn (O2:=[IC E.P args it Ob v fp]) h1 h2 ⟨⟨h3,fun _ _=> .inl (mA _)⟩,fun _ h=>(by cases h),trivial⟩ (fun k ⟨f,hf,hk⟩=>by
  rw [Do.1 hf]at hk;exact h4 k hk)
 exact k v fp _ _ S' (st'.put hd rfl)
theorem Jj{fid:FuncId}{O2:List OE}{it:PE α X}{cts:List Ty}{caps:List Operand}(hO:O=O1++O2)(hc:an E.P fid=true)(hs:BT E.P fid args it Ob O1 cts)(hcap:j6 E.N G caps cts)(hd:Nat.blt d E.N.n=true)(k: ∀v fp,RG E ops Q rest (IC E.P args it Ob v fp::O2) ((d,tV v)::G)):
  RG E ops Q (⟨some d,.makeFunc (.func fid) #[] caps.toArray,ty,pos,after,none⟩::rest) O G:= .of rfl fun a w S st=>by
 subst hO
 have hr:(execOp a.eval ⟨some d,.makeFunc (.func fid) #[] caps.toArray,ty,pos,after,none⟩).run E.P w= .ok (.value (.func (.func fid) #[] (caps.map a.eval).toArray)) w:=by simp [execOp,Instr.makeFunc]
 refine⟨fun c h=>(by cases h),?_⟩
 rw [hr]
 obtain⟨h1,h2,h3⟩:=nK st.own
 have hcv:=hcap.tys st.facts
 refine k (.func (.func fid) #[] (caps.map a.eval).toArray) (An O1) _ _ S ⟨st.ext,st.sat,?_,st.facts.put hd rfl⟩;refine cZ.cons ⟨⟨fun b ⟨f,hf,hb⟩=>f.here (cZ.mem h1 f hf).1 b hb,fid,_,rfl,hc,fun C w' S' he hC hs' =>?_⟩,fun b ⟨f,hf,hb⟩=>(cZ.mem h1 f hf).2 b hb⟩ (fun f hf b ⟨g,hg,hb⟩=>h3 g hg f hf b hb) h2;exact hs w' S' _ hs' (h1.weak.ext he fun f hf b hb=>hC b ⟨f,hf,hb⟩) (hcv.mono he.keep)
end

def r0(l:Nat)(r:Loop)(st:LoopState)(pd:Option Code):OE where
 fp:=fun k=>k=l
 p:=fun w S=>S l=none∧w.heap[l]? =some (.loop {r with state:=st,pending:=pd})
 here:=by
  intro w S h k hk
  subst hk
  exact(wc.1 h.2).1
 kept:=by
  intro C w w' S S' h k hC
  have hlt:=(wc.1 h.2).1
  exact⟨by rw [k.old l hlt (hC l rfl)];exact h.1,by rw [k.heap l hlt (hC l rfl)];exact h.2⟩
def WL(j:Option Nat):LoopState:=if j.isNone then .ready else .done
def T7(E:En)(l:Nat)(rec:Loop){σ ι:Type}(Oi:ι→List OE)(dat:ι→σ)(jc:Nat→Code)(r:Option Nat×σ):Ending→World→Prop:=fun en w' =>
 ∃i S',en= .returned (.bool r.1.isNone)∧dat i=r.2∧gz E.B E.w0 E.S0 w' S' ∧jL w' S' ∧cZ E.base E.B w' S' (r0 l rec (WL r.1) (r.1.map jc)::Oi i)
def xb{α σ:Type}(f:α→σ→Option (Option Nat×σ)):α→Option Nat×σ→Option (Bool×(Option Nat×σ)):=fun x s=>
 match s.1 with
 |some _=>none
 |none=>(f x s.2).map fun r=>(r.1.isNone,r)
variable{base:Nat}{ps:List MemPlace}{rec:Loop}{ι:Type}
section
theorem Bb{l:Nat}{st st' :LoopState}{pd pd' :Option Code}{O:List OE}(h:cZ base B w S (r0 l rec st pd::O))(hs:jL w S):
  gz (fun k=>k=l) w S (w.putObj l (.loop {rec with state:=st',pending:=pd' })) S∧jL (w.putObj l (.loop {rec with state:=st',pending:=pd' })) S∧cZ base B (w.putObj l (.loop {rec with state:=st',pending:=pd' })) S (r0 l rec st' pd' ::O):=by
 obtain⟨hno,hl⟩:=h.1.1
 have hlt:=(wc.1 hl).1
 have hext:gz (fun k=>k=l) w S (w.putObj l (.loop {rec with state:=st',pending:=pd' })) S:=⟨rfl,rfl,rfl,dY _,by simp,fun k _ hk=>World.putObj_heap_other hk,SH.le_refl _,fun _ _ _=>rfl⟩
 refine⟨hext,hs.same fun k o hk=>?_,⟨⟨hno,World.putObj_heap_same hlt⟩,h.1.2⟩,h.2.1,h.2.2.ext hext fun g hg k hk hkl=>h.2.1 g hg k hkl hk⟩
 have hne:k≠l:=fun e=>by subst e;rw [hno]at hk;cases hk
 exact World.putObj_heap_other hne
theorem HK{l:Nat}{body:Code}{R:Ending→World→Prop}(h:CG E (roundPost E.P l R) body (r0 l rec .busy none::O) G):AT E (Wp E l body R) .normal (r0 l rec .ready none::O) G:=fun a w S st=>by
 obtain⟨h1,h2,h3⟩:=Bb (st' := .busy) (pd' :=none) st.own st.sat
 obtain⟨_,hl⟩:=st.own.1.1
 exact⟨_,run_beginRound hl rfl,h a _ S ⟨st.ext.step h1 (fun c hc=>st.own.1.2 c hc),h2,h3,st.facts⟩⟩
theorem wV{l:Nat}{σ:Type}{Oi:ι→List OE}{dat:ι→σ}{jc:Nat→Code}{s2:σ}(i:ι)(hi:dat i=s2)(hO:O=Oi i):AT E (roundPost E.P l (T7 E l rec Oi dat jc (none,s2))) .normal (r0 l rec .busy none::O) G:=fun a w S st=>by
 subst hO
 obtain⟨h1,h2,h3⟩:=Bb (st' := .ready) (pd' :=none) st.own st.sat
 obtain⟨_,hl⟩:=st.own.1.1
 exact⟨_,_,run_endRound none hl,i,S,rfl,hi,st.ext.step h1 (fun c hc=>st.own.1.2 c hc),h2,h3⟩
theorem BW{l:Nat}{σ:Type}{Oi:ι→List OE}{dat:ι→σ}{jc:Nat→Code}{s2:σ}(q:Nat)(hq:jc q= .ret)(i:ι)(hi:dat i=s2)(hO:O=Oi i):AT E (roundPost E.P l (T7 E l rec Oi dat jc (some q,s2))) .ret (r0 l rec .busy none::O) G:=fun a w S st=>by
 subst hO
 obtain⟨h1,h2,h3⟩:=Bb (st' := .done) (pd' :=some .ret) st.own st.sat
 obtain⟨_,hl⟩:=st.own.1.1
 exact⟨_,_,run_endRound (some .ret) hl,i,S,rfl,hi,st.ext.step h1 (fun c hc=>st.own.1.2 c hc),h2,by rw [Option.map_some,hq];exact h3⟩
theorem HF{it:PE α X}{σ:Type}(Oi:ι→List OE)(dat:ι→σ)(jc:Nat→Code){f:α→σ→Option (Option Nat×σ)}{R:(Option Nat×σ)×X}{g:Operand}{ps:List Nat}{assign body:Code}(hr:E.r=none)(hg:aO E.N G g (tV v))(i0:ι)(hO:O=IC E.P args it Ob v fp::Oi i0)(hit:it (Option Nat×σ) (xb f) (none,dat i0)=some R)(hps: ∀x,ps.length=(args x).length)(hpn:(ps.all fun d=>Nat.blt d E.N.n)=true)(hbody: ∀(i:ι) (x:α) (r:Option Nat×σ),f x (dat i)=some r→ ∀(l:Nat) (rec:Loop) (w1:World) (S1:SH) (B1:Nat→Prop),
   CG ⟨E.P,⟨E.N.n,[]⟩,B1,w1,S1,some l⟩ (Wp ⟨E.P,⟨E.N.n,[]⟩,B1,w1,S1,some l⟩ l body (T7 ⟨E.P,⟨E.N.n,[]⟩,B1,w1,S1,some l⟩ l rec Oi dat jc r)) assign (r0 l rec .ready none::Oi i) (GY ps (args x) G))(k: ∀i' j,dat i' =R.1.2→ ∀b,(R.1.1=none→AT ⟨E.P,⟨E.N.n,xY b::E.N.ds⟩,E.B,E.w0,E.S0,E.r⟩ Q .normal (BF b::(Ob R.2 j++Oi i')) G)∧
   (∀q,R.1.1=some q→CG ⟨E.P,⟨E.N.n,xY b::E.N.ds⟩,E.B,E.w0,E.S0,E.r⟩ Q (jc q) (BF b::(Ob R.2 j++Oi i')) G)):CG E Q (.rangeFunc g ps.toArray assign body) O G:=fun a w S st=>by
 subst hO
 refine wpIn_rangeFunc fun fn _=>?_
 have hr0:(fw E.r).round=none:=hr
 have hfw:fw E.r=fw none:=by rw [hr]
 rw [hr0]
 obtain⟨rec,hrec⟩: ∃rec:Loop,rec={state:= .ready,pending:=none,fn,tmps:=a.tmps,params:=ps.toArray,assign,body,defers:=w.heap.size}:=⟨_,rfl⟩
 obtain⟨x1,x2,x3⟩:=gy (w:=w) (.deferred (some [])) st.sat
 obtain⟨y1,y2,y3⟩:=gy (w:=w.alloc (.deferred (some []))) (.loop rec) x2
 obtain⟨W1,hW1⟩: ∃W1,(w.alloc (.deferred (some []))).alloc (.loop rec)=W1:=⟨_,rfl⟩
 rw [hW1]at y1 y2
 have hsz:(w.alloc (.deferred (some []))).heap.size=w.heap.size+1:=by simp
 rw [hsz]at y3
 have hext:gz p7 w S W1 S:=x1.trans y1
 have hL1:W1.heap[w.heap.size+1]? =some (.loop rec):=by
  rw [←hW1];have:=World.alloc_heap_new (w.alloc (.deferred (some []))) (.loop rec);rwa [hsz]at this
 have hK1:W1.heap[w.heap.size]? =some (.deferred (some [])):=by
  rw [y1.heap w.heap.size (by omega) (fun h=>h)];exact World.alloc_heap_new w _
 have hW1s:W1.heap.size=w.heap.size+2:=by rw [←hW1];simp
 have hg' :a.eval g=v:=hg S a st.facts
 obtain⟨hit1,hap,hoi⟩:=st.own
 obtain⟨⟨hfp,gf,cap,hv,hcal,hcall⟩,hbase⟩:=hit1
 have hbl:=st.base_le
 have hoi1:cZ E.base E.B W1 S (Oi i0):=hoi.ext0 hext
 have hlt: ∀f∈Oi i0,∀k,f.fp k→k<w.heap.size:=fun f hf k hk=>f.here (cZ.mem hoi f hf).1 k hk
 refine⟨w.heap.size+1,[xY w.heap.size],W1,{target:= .fn (.func gf) cap,args:= #[.func (.yield (w.heap.size+1)) #[] #[]]},W1,gf,
  #[.func (.yield (w.heap.size+1)) #[] #[]]++cap,W1,?_,?_,fun _ _=>trivial,?_,fun h=>(by cases h),?_⟩
 ·rw [←hW1,hrec];exact run_enterLoop_outer _ _ _ _ _
 ·simp only [resolve,hg',hv]
  simp [go_sem]
 ·simp [invoke,go_sem,eU hcal]
 rw [hfw]
 refine j4.2 ?_
 have hyld:Zv E.P args (xb f) (fun s e=> ∃i,dat i=s.2∧e=qL S (r0 (w.heap.size+1) rec (WL s.1) (s.1.map jc)::Oi i)) (.func (.yield (w.heap.size+1)) #[] #[]):=by
  refine⟨_,rfl,?_⟩
  rintro x ⟨j0,s⟩ r hy e ⟨i,hi,rfl⟩ w2 S2 vs hs2 ⟨hle,hown⟩ hvs
  cases j0 with
  |some q=>unfold xb at hy;cases hy
  |none=>
  have hi' :dat i=s:=hi
  subst hi'
  obtain⟨r2,hs2',rfl⟩: ∃r2,f x (dat i)=some r2∧r=(r2.1.isNone,r2):=by
   unfold xb at hy
   cases hf:f x (dat i)with
   |none=>simp only [hf]at hy;cases hy
   |some s2=>simp only [hf]at hy;exact⟨s2,rfl,by simpa using hy.symm⟩
  have hl2:=hown.1.1.2
  have hvl:=hvs.length
  have hyr:=run_yield (P:=E.P) (args:=vs.toArray) hl2 (by rw [hrec];simp [hps x,hvl])
  refine⟨_,_,_,_,hyr,roundIn_of_wpIn trivial ?_⟩
  have hown' :cZ 0 p7 w2 S2 (r0 (w.heap.size+1) rec .ready none::Oi i):=hown
  have:=hbody i x r2 hs2' (w.heap.size+1) rec w2 S2 (fun k=> ∃f∈r0 (w.heap.size+1) rec .ready none::Oi i,f.fp k)
   {tmps:=(ps.zip vs).foldl (fun t (p:Nat×Value)=>t.setIfInBounds p.1 p.2) a.tmps,defers:=[]} w2 S2
   ⟨gz.refl _ _ _,hs2,kP hown' fun f hf k hk=> .inr ⟨f,hf,hk⟩,Ap ps (args x) vs ⟨a.tmps,[]⟩ G (hps x) hvs hpn ⟨st.facts.size,rfl,fun j t h=>t.mono hle (st.facts.at_ j t h)⟩⟩
  rw [hrec]
  rw [hrec]at this
  rw [w8]
  refine wpIn_mono this ?_
  intro e a3 w3 hp
  cases e with
  |normal=>
   obtain⟨w4,hb4,hp4⟩:=hp
   refine⟨w4,hb4,wpIn_mono hp4 ?_⟩
   have hR: ∀en w',T7 ⟨E.P,⟨E.N.n,[]⟩,fun k=> ∃f∈r0 (w.heap.size+1) rec .ready none::Oi i,f.fp k,w2,S2,some (w.heap.size+1)⟩ (w.heap.size+1) rec Oi dat jc r2 en w' →
     ∃e' S',en= .returned (.bool r2.1.isNone)∧(∃i',dat i' =r2.2∧e' =qL S (r0 (w.heap.size+1) rec (WL r2.1) (r2.1.map jc)::Oi i'))∧gz (qL S (r0 (w.heap.size+1) rec .ready none::Oi i)).fp w2 S2 w' S' ∧jL w' S' ∧e'.p w' S' ∧ ∀k,e'.fp k→(qL S (r0 (w.heap.size+1) rec .ready none::Oi i)).fp k∨w2.heap.size≤k:=by
    rintro en w' ⟨i',S',h1,h2,h3,h4,h5⟩
    exact⟨_,S',h1,⟨i',h2,rfl⟩,h3,h4,⟨SH.le_trans hle h3.keep,h5.weak⟩,fun k ⟨f,hf,hk⟩=>((cZ.mem h5 f hf).2 k hk).symm⟩
   rw [hrec]at hR
   intro e5 a5 w5 hp5
   cases e5<;>simp only [roundPost]at hp5 ⊢
   case normal=>obtain⟨v5,w6,h1,h2⟩:=hp5;exact⟨v5,w6,h1,hR _ _ h2⟩
   case ret=>obtain⟨v5,w6,h1,h2⟩:=hp5;exact⟨v5,w6,h1,hR _ _ h2⟩
   case exit=>obtain⟨v5,w6,h1,h2⟩:=hp5;exact⟨v5,w6,h1,hR _ _ h2⟩
   case goto=>obtain⟨v5,w6,h1,h2⟩:=hp5;exact⟨v5,w6,h1,hR _ _ h2⟩
  |_=>exact hp
 have hrecE:W1.heap[w.heap.size+1]? =some (.loop {rec with state:= .ready,pending:=none}):=by rw [hL1,hrec]
 have he0:(qL S (r0 (w.heap.size+1) rec .ready none::Oi i0)).p W1 S:=⟨SH.le_refl _,⟨⟨y3,hrecE⟩,fun _ _=> .inl (mA _)⟩,fun f hf k hk hfk=>by have:=hlt f hf k hfk;have hk' :k=w.heap.size+1:=hk;omega,hoi1.weak⟩
 have hap0: ∀k,(qL S (r0 (w.heap.size+1) rec .ready none::Oi i0)).fp k→ ¬fp k:=by
  rintro k ⟨f,hf,hk⟩ hfk
  rcases gk.1 hf with rfl|hf
  ·have:=hfp k hfk;have hk' :k=w.heap.size+1:=hk;omega
  ·exact hap f hf k hfk hk
 refine(hcall p7 W1 S hext (fun _ _ h=>h) y2 _ (xb f) (none,dat i0) R hit _ _ hyld _ ⟨i0,rfl,rfl⟩ he0 hap0).mono ?_
 rintro en w2 ⟨e',S2,j,⟨vr,rfl⟩,⟨i',hi',rfl⟩,hx2,hs2,⟨hle2,hown2⟩,hob,hnew,hapo⟩
 have hl2:=hown2.1.1.2
 have hnb: ∀k,(BF w.heap.size).fp k→ ¬((qL S (r0 (w.heap.size+1) rec .ready none::Oi i0)).fp k∨fp k):=by
  rintro k hk h
  have hk' :k=w.heap.size:=hk
  subst hk'
  rcases h with⟨f,hf,hfk⟩|h
  ·rcases gk.1 hf with rfl|hf
   ·have hk' :w.heap.size=w.heap.size+1:=hfk;omega
   ·have:=hlt f hf _ hfk;omega
  ·have:=hfp _ h;omega
 have hBin: ∀k,((qL S (r0 (w.heap.size+1) rec .ready none::Oi i0)).fp k∨fp k)→E.w0.heap.size≤k∨E.B k:=by
  rintro k (⟨f,hf,hk⟩|h)
  ·rcases gk.1 hf with rfl|hf
   ·left;have hk' :k=w.heap.size+1:=hk;have:E.w0.heap.size≤w.heap.size:=hbl;omega
   ·exact(cZ.mem hoi f hf).2 k hk
  ·exact hbase k h
 have hBn: ∀k,((qL S (r0 (w.heap.size+1) rec (WL R.1.1) (R.1.1.map jc)::Oi i')).fp k∨An (Ob R.2 j) k)→E.base≤k∨E.B k:=fun k hk=>(hnew k hk).elim (hBin k) (fun h=> .inl (by have h1:E.base≤w.heap.size:=hbl;have h2:W1.heap.size≤k:=h;omega))
 have hb2:cZ E.base E.B w2 S2 (r0 (w.heap.size+1) rec (WL R.1.1) (R.1.1.map jc)::(Ob R.2 j++Oi i')):=by
  obtain⟨q1,q2,q3⟩:=hown2
  refine cZ.cons ⟨q1.1,fun k hk=>hBn k (.inl ⟨_,lb ..,hk⟩)⟩ (fun f hf=>?_) (BR (kP hob fun f hf k hk=>hBn k (.inr ⟨f,hf,hk⟩)) (kP q3 fun f hf k hk=>hBn k (.inl ⟨f,lc _ hf,hk⟩)) fun e he f hf k hek hfk=>hapo k ⟨f,lc _ hf,hfk⟩ ⟨e,he,hek⟩)
  rcases AF.1 hf with hf|hf
  ·exact fun k hk hfk=>hapo k ⟨_,lb ..,hk⟩ ⟨f,hf,hfk⟩
  ·exact q2 f hf
 have hend:WL R.1.1≠ .busy:=by unfold WL;split<;>simp
 obtain⟨z1,z2,z3⟩:=Bb (st' := .exhausted) (pd' :=R.1.1.map jc) hb2 hs2
 have hdf:(BF w.heap.size).p W1 S:=⟨x3,hK1⟩
 have sI:(BF w.heap.size).p w2 S2:=(BF w.heap.size).kept hdf hx2 hnb
 have hd3:=(BF w.heap.size).kept sI z1 (fun k hk hkl=>by have h1:k=w.heap.size:=hk;have h2:k=w.heap.size+1:=hkl;omega)
 have stE:St ⟨E.P,⟨E.N.n,xY w.heap.size::E.N.ds⟩,E.B,E.w0,E.S0,E.r⟩ (BF w.heap.size::(Ob R.2 j++Oi i')) G {a with defers:=[xY w.heap.size]++a.defers} (w2.putObj (w.heap.size+1) (.loop {rec with state:= .exhausted,pending:=R.1.1.map jc})) S2:=by
  refine⟨((st.ext.step0 hext).step hx2 hBin).step z1 (fun c hc=>z3.1.2 c hc),z2,?_,?_⟩
  ·refine cZ.cons ⟨hd3,fun k hk=> .inl (by have h1:k=w.heap.size:=hk;rw [h1];exact hbl)⟩ (fun f hf k hk hfk=>?_) z3.2.2
   have h1:k=w.heap.size:=hk
   have h2:((qL S (r0 (w.heap.size+1) rec (WL R.1.1) (R.1.1.map jc)::Oi i')).fp k∨An (Ob R.2 j) k):=by
    rcases AF.1 hf with hf|hf
    ·exact .inr ⟨f,hf,hfk⟩
    ·exact .inl ⟨f,lc _ hf,hfk⟩
   rcases hnew k h2 with h|h
   ·exact hnb k hk h
   ·omega
  ·refine⟨st.facts.size,?_,fun j t hj=>t.mono (SH.le_trans (SH.le_refl S) hle2) (st.facts.at_ j t hj)⟩
   show xY w.heap.size::a.defers=_
   rw [st.facts.defers]
 obtain⟨k1,k2⟩:=k i' j hi' w.heap.size
 refine⟨_,_,run_endLoop hl2 hend,?_⟩
 cases hR1:R.1.1 with
 |none=>
  rw [hR1]at stE
  exact k1 hR1 _ _ S2 stE
 |some q=>
  rw [hR1]at stE
  have:=k2 q hR1 _ _ S2 stE
  show(jc q).wpIn (fw none) 0 E.P Q _ _
  have hE:fw (⟨E.P,⟨E.N.n,xY w.heap.size::E.N.ds⟩,E.B,E.w0,E.S0,E.r⟩:En).r=fw none:=hfw
  rw [hE]at this
  exact this
end

def WQ(l:List (Option Nat×Nat)):OI:={h:=fun n=>l.getD n (none,0)}
def d4(P:Program){A X ρ:Type}(args:A→List Ty)(Ob:X→OI→List OE)(res:ρ→Ty)(f:X→A→Option (ρ×X)):Ty where
 p:=fun S v=> ∀x y R,f x y=some R→ ∃fid fst cap,v= .func (.func fid) fst cap∧an P fid=true∧ ∀i w S' vs,SH.le S S' →jL w S' →xl S' (args y) vs→cZ 0 p7 w S' (Ob x i)→
  Calls P fid (fst++vs.toArray++cap) w fun en w' => ∃j v S'',en= .returned v∧(res R.1).p S'' v∧gz (An (Ob x i)) w S' w' S'' ∧jL w' S'' ∧cZ 0 p7 w' S'' (Ob R.2 j)∧ ∀k,An (Ob R.2 j) k→An (Ob x i) k∨w.heap.size≤k
 mono:=fun h k x y R hf=>by
  obtain⟨fid,fst,cap,e,hc,hs⟩:=k x y R hf
  exact⟨fid,fst,cap,e,hc,fun i w S' vs hle=>hs i w S' vs (SH.le_trans h hle)⟩
variable{A ρ:Type}{res:ρ→Ty}
theorem GK{args:A→List Ty}:(d4 P args Ob res (fun _ _=>none)).p S v:=fun _ _ _ h=>by cases h
section
section
variable{ty:TypeId}
theorem j7{args:A→List Ty}{f:X→A→Option (ρ×X)}{fid:FuncId}(hc:an E.P fid=true)(hp:aO E.N G p (tV (aS b 0)))(hs: ∀x y R,f x y=some R→ ∀i,dl E.P fid (tV (aS b 0)::args y) (Ob x i) (fun _:OI=>res R.1) (fun j=>Ob R.2 j)):
  bZ E O G ⟨dst,.makeFunc (.func fid) #[p] #[],ty,pos,after,g⟩ (d4 E.P args Ob res f):= .of_pure fun a w S _ _ hf=>by
 have h1:a.eval p=aS b 0:=hp S a hf
 refine⟨.func (.func fid) #[aS b 0] #[],by simp [execOp,Instr.makeFunc,h1],fun x y R hR=>⟨fid,#[aS b 0],#[],rfl,hc,fun i w' S' vs _ hsat hv ho=>?_⟩⟩
 have:=hs x y R hR i w' S' (aS b 0::vs) hsat ⟨rfl,hv⟩ ho
 rw [show(#[aS b 0]++vs.toArray++ #[]:Array Value)=(aS b 0::vs).toArray from by simp]
 exact this
end
theorem BC{args:A→List Ty}{f:X→A→Option (ρ×X)}{x:X}{y:A}{R:ρ×X}{i:OI}{ty:TypeId}{fo:Operand}(Or:List OE)(hO:O=Ob x i++Or)(hf:aO E.N G fo (d4 E.P args Ob res f))(hR:f x y=some R)(hx:j6 E.N G xs (args y))(hpost: ∀j,Ob R.2 j++Or=post j):
  EffOK E O G ⟨some d,.call ⟨.value fo,xs.toArray,ats⟩,ty,pos,after,g⟩ post (fun _=>res R.1):=fun a w S hsat ho hF hb=>by
 subst hO
 obtain rfl:(fun j=>Ob R.2 j++Or)=post:=funext hpost
 obtain⟨fid,fst,cap,e,hc,hs⟩:=hf S a hF x y R hR
 have hr:(execOp a.eval ⟨some d,.call ⟨.value fo,xs.toArray,ats⟩,ty,pos,after,g⟩).run E.P w= .ok (.enter fid (fst++(xs.map a.eval).toArray++cap)) w:=by
  simp [execOp,resolve,e,Deferred.ofValue,invoke,eU hc]
 refine⟨fun c h=>(by cases h),?_⟩
 rw [hr]
 exact(hs i w S _ (SH.le_refl _) hsat (hx.tys hF) (nK ho).1.weak).mono fun en w' ⟨j,v,S',he,hv,h1,h2,h3,h4⟩=>⟨_,he,v,S',j,rfl,h1.more fun b ⟨f,hf,hb⟩=>⟨f,GF _ hf,hb⟩,h2,cZ.turn ho hb h1 h3 h4,hv⟩
theorem iY{t:Ty}{Ob:OI→List OE}{i:OI}(h:dl P f ts O1 (fun _:OI=>t) (fun _=>Ob i)):dl P f ts O1 (fun _:OI=>t) Ob:=fun w S vs hs hv ho=>
 (h w S vs hs hv ho).mono fun _ _ ⟨_,v,S',h1,h2,h3,h4,h5,h6⟩=>⟨i,v,S',h1,h2,h3,h4,h5,h6⟩
section
variable{t:ι→Ty}{O2:ι→List OE}
theorem eN{rvs:List ResultVar}(hr:fn.results=rvs.toArray)(h1:Nat.beq rvs.length 1=false)(h:QJ P ⟨N,[]⟩ G rvs ts)(i:ι)(hO:O=O2 i)(ht:t i=tT ts):
  AT ⟨P,⟨N,[]⟩,An O1,w0,S0,none⟩ (bodyPost P fn (SJ ⟨P,⟨N,[]⟩,An O1,w0,S0,none⟩ O1 t O2)) .ret O G:=fun a w S st=>by
 obtain⟨vs,k1,k2,k3⟩:=h.run st.sat st.facts
 have hne: ¬vs.length=1:=by rw [k3];intro e;rw [e]at h1;cases h1
 refine⟨st.facts.defers,.tuple vs.toArray,?_,Pd st rfl i hO (by rw [ht];exact⟨vs,rfl,k2⟩)⟩
 have e1:(fn.results.mapM (Ai a.tmps)).run P w= .ok vs.toArray w:=by
  rw [hr,List.mapM_toArray,Sem.run_map,k1]
  rfl
 have e3:results fn a.tmps=((fn.results.mapM (Ai a.tmps))>>=fun vs=>pure (if h:vs.size=1 then vs[0]else .tuple vs)):=rfl
 rw [e3,vf,e1]
 simp [Result.andThen,hne]
end
def tPV(u:Value)(t:Ty):Ty where
 p:=fun S v=>v=u∧t.p S u
 mono:=fun h ⟨e,k⟩=>⟨e,t.mono h k⟩
theorem St.settleP{x:α}(h:St E (bx r T b x::O) G a w S)(hk:dm G k=some (tV (aS b 0))): ∃S',St E O ((k,tPV (aS b 0) (bN r x))::G) a w S' :=by
 obtain⟨S',h1⟩:=h.settleB hk
 have hv:a.tmps.getD k undef=aS b 0:=h.facts.at_ k _ hk
 refine⟨S',⟨h1.ext,h1.sat,h1.own,⟨h1.facts.size,h1.facts.defers,fun j t hj=>?_⟩⟩⟩
 have hp:(bN r x).p S' (a.tmps.getD k undef):=h1.facts.at_ k _ (by simp [dm])
 by_cases hb:Nat.beq k j=true
 ·have e:=oV hb
  subst e
  simp only [dm,Nat.beq_refl,cond_true,AO]at hj
  subst hj
  exact⟨hv,by rw [←hv];exact hp⟩
 ·rw [zW]at hb
  have:dm ((k,bN r x)::G) j=some t:=by
   simp only [dm,hb,cond_false]at hj ⊢;exact hj
  exact h1.facts.at_ j t this
theorem AD{x:α}{e:Exit}(k:Nat)(hk:dm G k=some (tV (aS b 0)))(h:AT E Q e O ((k,tPV (aS b 0) (bN r x))::G)):AT E Q e (bx r T b x::O) G:=
 fun a w _ st=>let⟨S',st'⟩:=st.settleP hk;h a w S' st'
theorem Wn{hs:HL}{x:α}(h:cZ base B w S (bx (rH r hs) T b x::O)):cZ base B w S (bx r T b x::O):=by
 obtain⟨⟨⟨h1,c,h2,h3⟩,h4⟩,h5,h6⟩:=h
 exact⟨⟨⟨h1,c,h2,h3.1⟩,h4⟩,h5,h6⟩
theorem CL{hs:HL}{x:α}{e:Exit}(h:AT E Q e (bx r T b x::O) G):AT E Q e (bx (rH r hs) T b x::O) G:=fun a w S st=>h a w S (st.own_map Wn)
theorem Cb{N:Fr}{G:lW}{j:Nat}{t:Ty}(ti:TI P T 1 bytes false z)(hk:dm G k=some (bN rV u))(hj:dm G j=some (tPV u t)):Pv P N G (.cell k T) t:=fun a w S hs hf=>by
 obtain⟨v,h1,h2⟩:=aN (r:=rV) ti rfl rfl hk a w S hs hf
 have h3:=(wj.1 h2).1
 subst h3
 obtain⟨_,h4⟩:=hf.at_ j _ hj
 exact⟨v,h1,h4⟩
end
variable{et kt:TypeId}{kv:κ→Value}{os:List (Option Nat×Nat)}
section
variable [DecidableEq κ]{k:κ}{i v:Operand}{dst:Option Nat}{ty:TypeId}
theorem fc(hm:E.P.underlying t=some (.map kt et))(hk:HC E.P kt kv)(hx:aO E.N G x (tV (rd b)))(hi:LL E.N G i (kv k))(hv:aO E.N G v (γ y))(h: ∀os',RG E ops Q rest (nP (xg γ) kv b none os' (dF m k y)::O) G):
  RG E ops Q (⟨none,.insert t x i v,ty,pos,after,none⟩::rest) (nP (xg γ) kv b none os m::O) G:= .of rfl fun a w S st=>by
 have h1:a.eval x=rd b:=hx S a st.facts
 have h2:a.eval i=kv k:=hi S a st.facts
 have h3:(γ y).p S (a.eval v):=hv S a st.facts
 obtain⟨⟨hp,hfp⟩,hap,hO⟩:=st.own
 obtain⟨hno,hnb,es,clock,e3,e4,hst⟩:=hp
 obtain⟨q,hq,hdk,hinj⟩:=hk
 obtain⟨os1,p1,p2,_⟩:=uc hdk hinj (k:=k) 0 e4
 have hnb1: ∀o∈os1,o.1≠some b:=fun o ho=>by
  rcases p1 o ho with h|h
  ·exact hnb o h
  ·rw [h];exact fun e=>by cases e
 obtain⟨w',os',r,x1,x2,x3,x4⟩:=Qj (V:=xg γ) (E:=E) (y:=y) (o:=(none,0)) (val:=a.eval v) st.sat hm ⟨q,hq,hdk,hinj⟩ ⟨hno,hnb1,es,clock,e3,p2,hst⟩ ⟨rfl,h3⟩ (fun e=>by cases e) (fun _ _ _ e=>by cases e)
 have hrun:(execOp a.eval ⟨none,.insert t x i v,ty,pos,after,none⟩).run E.P w= .ok .skip w' :=by simp [execOp,h1,h2,r]
 refine⟨fun c h=>(by cases h),?_⟩
 rw [hrun]
 have hfp' : ∀j,(nP (xg γ) kv b none os' (dF m k y)).fp j→(nP (xg γ) kv b none os m).fp j:=fun j hj=>by
  rcases x4 j hj with(h|⟨o,ho,e⟩)|e
  ·exact .inl h
  ·rcases p1 o ho with h|h
   ·exact .inr ⟨o,h,e⟩
   ·rw [h]at e;cases e
  ·cases e
 exact h os' _ _ S ⟨st.ext.step x1 (fun c hc=>hfp c (.inl hc)),x2,⟨⟨x3,fun j hj=>hfp j (hfp' j hj)⟩,fun f hf j hj=>hap f hf j (hfp' j hj),hO.ext x1 fun f hf j hj hjb=>hap f hf j (.inl hjb) hj⟩,st.facts⟩
end
def isT(b:Bool):Option Unit:=if b then some ()else none
theorem RV{b:Bool}{u:Unit}(h:isT b=some u):b=true:=by
 unfold isT at h
 split at h
 ·assumption
 ·cases h

def Hf{κ β:Type}(γ:β→Ty)(kv:κ→Value)(S:SH):List MapEntry→List (κ×β)→Prop
 |[],[]=>True
 |e::es,q::m=>e.key=kv q.1∧(γ q.2).p S e.val∧(∀p∈m,p.1≠q.1)∧Hf γ kv S es m
 |_,_=>False
theorem Ar{κ β:Type}{γ:β→Ty}{kv:κ→Value}{S S' :SH}(h:SH.le S S'): ∀{es:List MapEntry} {m:List (κ×β)},Hf γ kv S es m→Hf γ kv S' es m
 |[],[],_=>trivial
 |_::_,q::_,⟨h1,h2,h3,h4⟩=>⟨h1,(γ q.2).mono h h2,h3,Ar h h4⟩
theorem SG{κ β:Type} [DecidableEq κ]{γ:β→Ty}{kv:κ→Value}{w:World}{S:SH}: ∀{es:List MapEntry} {os:List (Option Nat×Nat)} {m:List (κ×β)},xh (xg γ) kv w S none es os m→Hf γ kv S es m
 |[],[],[],_=>trivial
 |_::_,_::_,_::_,⟨h1,h2,_,h4,h5⟩=>⟨h1,by rw [aX (by simp)]at h2;exact h2.2,h4,SG h5⟩
theorem Tx{κ β:Type} [DecidableEq κ]{γ:β→Ty}{kv:κ→Value}{w:World}{S:SH}: ∀{es:List MapEntry} {m:List (κ×β)},Hf γ kv S es m→xh (xg γ) kv w S none es (m.map fun _=>(none,0)) m
 |[],[],_=>trivial
 |_::_,_::_,⟨h1,h2,h3,h4⟩=>⟨h1,by rw [aX (by simp)];exact⟨rfl,h2⟩,fun _ _ _ h=>(by cases h),h3,Tx h4⟩
def N3{κ β:Type}(γ:β→Ty)(kv:κ→Value)(m:List (κ×β)):Ty where
 p:=fun S v=> ∃b es clock,v=rd b∧S b=some (.map es clock)∧Hf γ kv S es.toList m
 mono:=fun h ⟨b,es,cl,e,h1,h2⟩=>by
  obtain⟨o',h3,h4⟩:=h b _ h1
  have h5:o' = .map es cl:=h4
  subst h5
  exact⟨b,es,cl,e,h3,Ar h h2⟩
theorem Ud: ∀S v,(N3 γ kv m).p S v→v.oneCell' =true:=fun _ _ ⟨_,_,_,e,_⟩=>by rw [e];rfl
section
variable [DecidableEq κ]{k:κ}{i:Operand}{dst:Option Nat}{ty:TypeId}
theorem Ky{z:β}{zv:Value}(hm:E.P.underlying t=some (.map kt et))(hk:HC E.P kt kv)(hz:ZV E.P et zv)(hzt: ∀S,(γ z).p S zv)(hx:aO E.N G x (N3 γ kv m))(hi:LL E.N G i (kv k)):
  bZ E O G ⟨dst,.lookup t x i false,ty,pos,after,g⟩ (γ ((pw m k).getD z)):= .of_pure fun a w S hs ho hf=>by
 obtain⟨b,es,clock,h1,h3,h4⟩:=hx S a hf
 obtain⟨o',h5,h6⟩:=hs b _ h3
 have h7:o' = .map es clock:=h6
 subst h7
 obtain⟨q,hq,hd,hinj⟩:=hk
 have h2:a.eval i=kv k:=hi S a hf
 obtain⟨_,_,_,h8⟩:=uc hd hinj (k:=k) 0 (Tx (w:=w) h4)
 rcases h8 with⟨g1,g2⟩|⟨y,o,e,j,g1,g2,g3,g4,g5⟩
 ·refine⟨zv,by simp [execOp,h1,h2,nw hm hq (hd k) h5 hz g2],by rw [g1];exact hzt S⟩
 ·refine⟨e.val,by simp [execOp,h1,h2,nw hm hq (hd k) h5 hz g4],by rw [g1];exact g3.2⟩
theorem St.settleMp{j:Nat}(h:St E (nP (xg γ) kv b none os m::O) G a w S)(hk:dm G j=some (tV (rd b))): ∃S',St E O ((j,N3 γ kv m)::G) a w S' :=by
 obtain⟨⟨hn,_,es,clock,h3,h4,_⟩,_⟩:=h.own.1
 obtain⟨h8,hle,_,_⟩:=Ah h (.inl rfl) h3 (vC _) hn
 have hv:a.tmps.getD j undef=rd b:=h.facts.at_ j _ hk
 exact⟨_,h8.cons ⟨b,es,clock,hv,by simp [SH.set],Ar hle (SG h4)⟩⟩
theorem LU{e:Exit}(j:Nat)(hk:dm G j=some (tV (rd b)))(h:AT E Q e O ((j,N3 γ kv m)::G)):AT E Q e (nP (xg γ) kv b none os m::O) G:=
 fun a w _ st=>let⟨S',st'⟩:=st.settleMp hk;h a w S' st'
end
def zg(P:Program){α β:Type}(args:α→List Ty)(res:β→Ty)(f:α→Option β):Ty where
 p:=fun S v=> ∀x y,f x=some y→ ∃fid cap,v= .func (.func fid) #[] cap∧an P fid=true∧ ∀w S' vs,SH.le S S' →jL w S' →xl S' (args x) vs→
  Calls P fid (vs.toArray++cap) w fun e w' => ∃v S'',e= .returned v∧gz p7 w S' w' S'' ∧jL w' S'' ∧(res y).p S'' v
 mono:=fun h k x y hxy=>by
  obtain⟨f,cap,e,hc,k⟩:=k x y hxy
  exact⟨f,cap,e,hc,fun w S' vs hle=>k w S' vs (SH.le_trans h hle)⟩
theorem oR{N:Fr}{res:β→Ty}{f:α→Option β}(h:aO N G x (ei P args res f)):aO N G x (zg P args res f):=fun S a hf u y hxy=>by
 obtain⟨fid,cap,e,hc,k⟩:=h S a hf
 exact⟨fid,cap,e,hc,fun w S' vs=>k u y hxy w S' vs⟩
theorem TV{res:β→Ty}:(zg P args res (fun _:α=>(none:Option β))).p S v:=fun _ _ h=>by cases h
theorem Qc{ty:TypeId}{res:β→Ty}{f:α→Option β}{fo:Operand}{x:α}(hfo:aO E.N G fo (zg E.P args res f))(h:f x=some y)(hx:j6 E.N G xs (args x)):
  bZ E O G ⟨dst,.call ⟨.value fo,xs.toArray,ats⟩,ty,pos,after,g⟩ (res y):=fun a w S hS _ hF=>by
 obtain⟨fid,cap,e,hc,hs⟩:=hfo S a hF x y h
 have hr:(execOp a.eval ⟨dst,.call ⟨.value fo,xs.toArray,ats⟩,ty,pos,after,g⟩).run E.P w= .ok (.enter fid ((xs.map a.eval).toArray++cap)) w:=by
  simp [execOp,resolve,e,Deferred.ofValue,invoke,eU hc]
 refine⟨fun c h=>(by cases h),?_⟩
 rw [hr]
 exact(hs w S _ (SH.le_refl _) hS (hx.tys hF)).mono fun e w' ⟨v,S',he,h1,h2,h3⟩=>⟨v,he,v,S',rfl,h1,h2,h3⟩

def GS:Nat:=1000000
def tGl{α:Type}(r:Rp α)(x:α)(g:Nat):Ty where
 p:=fun S _=>(bN r x).p S (aS g 0)
 mono:=fun h k=>(bN r x).mono h k
theorem Yz{x:α}{g:Nat}{vs:List Value}(hs:jL w S)(hg:(g,vs)∈glob)(hr: ∀S,r.rc S vs x):(bN r x).p S (aS g 0):=by
 obtain⟨c,T,fr,h1,h2⟩:=hs.gl _ hg
 refine⟨g,0,c,T,fr,rfl,h1,?_⟩
 rw [xn,←r.len (hr S)]
 have h3:c.toList.take vs.length=vs:=h2
 rw [h3]
 exact hr S
section
variable{ty:TypeId}
theorem Sh{N:Fr}{t:Ty}(hf:di N S a G)(h: ∀v,t.p S v):di N S a ((GS,t)::G):=⟨hf.size,hf.defers,fun j u hj=>by
 unfold dm at hj
 cases hb:Nat.beq GS j with
 |true=>
  rw [hb]at hj
  simp only [cond_true,AO]at hj
  rw [←hj];exact h _
 |false=>
  rw [hb]at hj
  simp only [cond_false]at hj
  exact hf.at_ j u hj⟩
theorem QM{x:α}{v:Nat}{vs:List Value}{t:Ty}(hg:(v,vs)∈glob)(hr: ∀S,r.rc S vs x)(h:bZ E O ((GS,tGl r x v)::G) o t):bZ E O G o t:=fun a w S hs ho hf=>
 h a w S hs ho (Sh hf fun _=>Yz hs hg hr)
theorem aae{N:Fr}{x:α}{v:Nat}:aO N ((GS,tGl r x v)::G) (.global v) (bN r x):=fun S a hf=>hf.at_ GS (tGl r x v) (by simp [dm])
def KS(s:xc)(i:Int):Option Int:=(de s i).map fun b=>(b.toNat:Int)
theorem yL{s:xc}{ix:Operand}{k:IntKind}{i y:Int}(ht:E.P.underlying t=some .string)(hx:aO E.N G x (tD rS s))(hi:aO E.N G ix (tD (rI k) i))(hy:KS s i=some y):
  bZ E O G ⟨dst,.index t x ix,ty,pos,after,g⟩ (tD (rI .u8) y):= .of_pure fun a w S _ _ hf=>by
 have h1:a.eval x= .string ⟨s.toArray⟩:=Aa.1 (hx S a hf)
 have h2:a.eval ix= .int k i:=cY.1 (hi S a hf)
 unfold KS at hy
 cases hb:de s i with
 |none=>rw [hb]at hy;cases hy
 |some b=>
  rw [hb]at hy
  obtain⟨g1,g2⟩:=lC hb
  have hlt:i.toNat<s.length:=(jP.1 g2).1
  have e:y=(b.toNat:Int):=by simpa using hy.symm
  have hsz:(ByteArray.mk s.toArray).size=s.length:=by simp [ByteArray.size]
  refine⟨.int .u8 y,?_,cY.2 rfl⟩
  have h3:=run_index_string (P:=E.P) w t ⟨s.toArray⟩ k i ht
  rw [dif_pos (by rw [hsz];omega)]at h3
  have h4:(ByteArray.mk s.toArray)[i.toNat]'(by rw [hsz];exact hlt)=b:=by
   have:=(jP.1 g2).2
   show s.toArray[i.toNat]=b
   simpa using this
  simp only [execOp,h1,h2,vf,h3,xf,Sem.run_pure]
  rw [h4,e]
def Wj(a b:xc):Int:=Lib.compareBytes a b
theorem Uh{s u:xc}{y:Operand}(hf:E.P.funcs[f]? =some fn)(hname:(fn.name== "runtime.NumGoroutine")=false)(hb:fn.body.isNone=true)(hn:Extern.findNext fn=none)(he:Extern.find fn=some Extern.BytealgCompare.compare)(hx:aO E.N G x (tD rS s))(hy:aO E.N G y (tD rS u)):
  bZ E O G ⟨dst,.call ⟨.value (.func f),#[x,y],ats⟩,ty,pos,after,g⟩ (tD (rI .i64) (Wj s u)):= .of_pure fun a w S _ _ hF=>by
 have h1:a.eval x= .string ⟨s.toArray⟩:=Aa.1 (hx S a hF)
 have h2:a.eval y= .string ⟨u.toArray⟩:=Aa.1 (hy S a hF)
 refine⟨.int .i64 (Wj s u),?_,cY.2 rfl⟩
 have h3:=run_callFunc_extern hf hname hb hn he #[.string ⟨s.toArray⟩,.string ⟨u.toArray⟩] w
 rw [Lib.run_compareString]at h3
 have h0:a.eval (.func f)= .func (.func f) #[] #[]:=rfl
 simp [execOp,resolve,h0,Deferred.ofValue,invoke,h1,h2,h3,Wj,Result.andThen]
end
open Go.MapKept (Stamped)
section
variable [DecidableEq κ]
end
section
variable [DecidableEq κ]{r:Nat}{left:List κ}{cur:Option κ}{k:κ}{i v:Operand}{dst:Option Nat}{ty:TypeId}
end
open Go.RowKit

section
variable{ty:TypeId}
end

abbrev NG:=Nat→(Option Nat×Nat)×(Nat→Option Nat×Nat)
inductive NPl where
 |o
 |i (k:Nat)
 |l (k j:Nat)
section
def sI(q:Nat→Option Nat×Nat)(zs:List (List α)):List Value:=zs.mapIdx fun j z=>bc (q j).1 (q j).2 z.length
def hd1(prj:β→List (List α))(g:NG)(x:List β):List Value:=x.mapIdx fun k y=>bc (g k).1.1 (g k).1.2 (prj y).length
def nsB(prj:β→List (List α))(l:Option Nat)(g:NG)(x:List β)(h:Option (Nat×Nat)):NPl→Option Nat
 | .o=>l
 | .i k=>(x[k]?).bind fun _=>(g k).1.1
 | .l k j=>if h=some (k,j)then none else((x[k]?).bind fun y=>(prj y)[j]?).bind fun _=>((g k).2 j).1
structure nstP(prj:β→List (List α))(r:Rp α)(T1 T2 T3:TypeId)(l:Option Nat)(cap n:Nat)(g:NG)(x:List β)(h:Option (Nat×Nat))(w:World)(S:SH):Prop where
 len:x.length=n
 out:CA false rV T1 l cap (hd1 prj g x) w S
 inn: ∀k y,x[k]? =some y→CA false rV T2 (g k).1.1 (g k).1.2 (sI (g k).2 (prj y)) w S
 lvs: ∀k y j z,x[k]? =some y→(prj y)[j]? =some z→h≠some (k,j)→CA true r T3 ((g k).2 j).1 ((g k).2 j).2 z w S
 inj: ∀s t b,nsB prj l g x h s=some b→nsB prj l g x h t=some b→s=t
variable{prj:β→List (List α)}{T1 T2 T3:TypeId}{l:Option Nat}{g:NG}{x:List β}{h:Option (Nat×Nat)}
end
section
variable{prj:β→List (List α)}{T1 T2 T3:TypeId}{l:Option Nat}{g:NG}{x:List β}{h:Option (Nat×Nat)}
variable{ty:TypeId}{gd:Option (Nat×Bool)}
open Classical in
noncomputable def acC(w:World)(S:SH)(P:Nat→Prop):SH:=fun b=>if P b then w.heap[b]? else S b
def g0(hs:List (Option Nat×Nat)):NG:=fun k=>(hs.getD k (none,0),fun _=>(none,0))
def tsB(l:Option Nat)(q:Nat→Option Nat×Nat)(zs:List (List α))(h:Option Nat):Option Nat→Option Nat
 |none=>l
 |some j=>if h=some j then none else(zs[j]?).bind fun _=>(q j).1
structure rowP(r:Rp α)(T2 T3:TypeId)(l:Option Nat)(cap n:Nat)(q:Nat→Option Nat×Nat)(zs:List (List α))(h:Option Nat)(w:World)(S:SH):Prop where
 len:zs.length=n
 inn:CA false rV T2 l cap (sI q zs) w S
 lvs: ∀j z,zs[j]? =some z→h≠some j→CA true r T3 (q j).1 (q j).2 z w S
 inj: ∀s t b,tsB l q zs h s=some b→tsB l q zs h t=some b→s=t
variable{q:Nat→Option Nat×Nat}{zs:List (List α)}{k:Option Nat}
end

def Gr(es:List Bool)(done:Array Bool):List Nat:=(List.range es.length).filter fun k=>(es[k]?).getD false&&done.getD k false
def Uw(es:List Bool)(i:Nat)(s:List Nat):List Nat:=(List.range es.length).filter fun k=>Nat.beq k i||s.contains k
def Zh:List Nat→List Nat→Bool
 |[],[]=>true
 |a::s,b::t=>Nat.beq a b&&Zh s t
 |_,_=>false
theorem No: ∀{s t:List Nat},Zh s t=true→s=t
 |[],[],_=>rfl
 |a::s,b::t,h=>by
  simp only [Zh,mz]at h
  rw [oV h.1,No h.2]
 |[],_::_,h=>by cases h
 |_::_,[],h=>by cases h
def QY:List (List Nat×((Nat→OI)→List OE))→List Nat→(Nat→OI)→List OE
 |[],_,_=>[]
 |p::r,s,σ=>bif Zh p.1 s then p.2 σ else QY r s σ
theorem Bf:k∈Gr es done↔es[k]? =some true∧done.getD k false=true:=by
 unfold Gr
 rw [Gx,List.mem_range,mz]
 constructor
 ·rintro⟨h1,h2,h3⟩
  refine⟨?_,h3⟩
  rw [ph h1]at h2 ⊢
  simpa using h2
 ·rintro⟨h1,h2⟩
  exact⟨(jP.1 h1).1,by rw [h1];rfl,h2⟩
theorem QA{i:Nat}(h:es[i]? =some false):Gr es (done.setIfInBounds i true)=Gr es done:=by
 unfold Gr
 refine List.filter_congr fun k hk=>?_
 by_cases hik:i=k
 ·subst hik;rw [h];rfl
 ·rw [vk false hik]
theorem Wg{i:Nat}(h:es[i]? =some true)(hs:i<done.size):Gr es (done.setIfInBounds i true)=Uw es i (Gr es done):=by
 unfold Uw
 conv=>lhs;unfold Gr
 refine List.filter_congr fun k hk=>?_
 by_cases hik:i=k
 ·subst hik;simp [h,hs]
 ·rw [vk false hik]
  have hb:Nat.beq k i=false:=by
   cases hb:Nat.beq k i with
   |false=>rfl
   |true=>exact absurd (oV hb).symm hik
  rw [hb,sy,AE,Jw,Bf,mz]
  constructor
  ·rintro⟨h1,h2⟩
   refine⟨?_,h2⟩
   cases he:es[k]? with
   |none=>rw [he]at h1;cases h1
   |some b=>rw [he]at h1;simpa using h1
  ·rintro⟨h1,h2⟩
   exact⟨by rw [h1];rfl,h2⟩
def GL:List Nat→List (List Nat)
 |[]=>[[]]
 |k::l=>(GL l).map (k:: ·)++GL l
def Dz(es:List Bool):List Nat:=(List.range es.length).filter fun k=>(es[k]?).getD false
theorem ye(p:Nat→Bool): ∀l:List Nat,l.filter p∈GL l
 |[]=>Do.2 rfl
 |k::l=>by
  unfold GL
  rw [AF]
  by_cases h:p k=true
  ·rw [List.filter_cons_of_pos h]
   exact .inl (vl.2 ⟨_,ye p l,rfl⟩)
  ·rw [List.filter_cons_of_neg h]
   exact .inr (ye p l)
theorem SO(es:List Bool)(done:Array Bool):Gr es done∈GL (Dz es):=by
 have:Gr es done=(Dz es).filter fun k=>done.getD k false:=by
  unfold Gr Dz
  rw [List.filter_filter]
  refine List.filter_congr fun k _=>Bool.and_comm ..
 rw [this]
 exact ye _ _
def noE(L:List Oper)(es:List Bool)(i:Nat)(s:List Nat):Bool:=
 s.contains i||(Dz es).any fun k=>if s.contains k then nM L L.length k i||(Dz es).any fun j=> !s.contains j&&nM L L.length k j else nM L L.length i k
def PL(L:List Oper)(es:List Bool)(i:Nat)(aas:List (List Nat)):Bool:=(GL (Dz es)).all fun s=>noE L es i s||aas.any fun a=>Zh a s
def LT{α:Type}(p:α→Prop):List α→Prop
 |[]=>True
 |a::l=>p a∧LT p l
theorem LT.mem{p:α→Prop}: ∀{l:List α},LT p l→ ∀a∈l,p a
 |_::_,⟨h,_⟩,_,.head _=>h
 |_::_,⟨_,h⟩,_,.tail _ hm=>LT.mem h _ hm
abbrev ZA:=List (List Nat×((Nat→OI)→List OE))
def DT(E:En)(G:lW)(L:List Oper)(ts:List TS)(Ss:ZA)(es0:List Bool):Nat→List Oper→List Bool→Prop
 |_,[],_=>True
 |i,o::rest,false::es=>(∃(needs:List NS) (t:TS) (aas:List (List Nat)),ts[i]? =some t∧xd G ts needs∧(needs.all fun n=>qf L o i (n.at fun _=>pj))=true∧fd i o=true∧QB L es0 i t=true∧PL L es0 i aas=true∧o.dst.isSome=true∧
   LT (fun s=> ∀σ,cv E (QY Ss s σ) L.toArray (w7 needs σ) o (t.at σ)) aas)∧DT E G L ts Ss es0 (i+1) rest es
 |i,o::rest,true::es=>(∃(needs:List NS) (t:TS) (aas:List (List Nat×List Nat)),ts[i]? =some t∧xd G ts needs∧(needs.all fun n=>qf L o i (n.at fun _=>pj))=true∧fd i o=true∧QB L es0 i t=true∧PL L es0 i (aas.map (·.1))=true∧(aas.all fun p=>Zh (Uw es0 i p.1) p.2)=true∧
   LT (fun p:List Nat×List Nat=> ∀σ,qJ E L.toArray (QY Ss p.1 σ) (w7 needs σ) o (fun x=>QY Ss p.2 (Mg σ i x)) (fun x=>t.at (Mg σ i x))) aas)∧DT E G L ts Ss es0 (i+1) rest es
 |_,_::_,[]=>False
theorem DT.get{ts:List TS}{Ss:ZA}{es0:List Bool}: ∀(r:List Oper) (es:List Bool) (k:Nat),DT E G L ts Ss es0 k r es→ ∀(j:Nat) (o:Oper),r[j]? =some o→
    ∃e,es[j]? =some e∧ ∃(needs:List NS) (t:TS),ts[k+j]? =some t∧xd G ts needs∧(needs.all fun n=>qf L o (k+j) (n.at fun _=>pj))=true∧fd (k+j) o=true∧QB L es0 (k+j) t=true∧
      (match e with
       |false=>o.dst.isSome=true∧ ∃aas,PL L es0 (k+j) aas=true∧LT (fun s=> ∀σ,cv E (QY Ss s σ) L.toArray (w7 needs σ) o (t.at σ)) aas
       |true=> ∃aas:List (List Nat×List Nat),PL L es0 (k+j) (aas.map (·.1))=true∧(aas.all fun p=>Zh (Uw es0 (k+j) p.1) p.2)=true∧LT (fun p:List Nat×List Nat=> ∀σ,qJ E L.toArray (QY Ss p.1 σ) (w7 needs σ) o (fun x=>QY Ss p.2 (Mg σ (k+j) x)) (fun x=>t.at (Mg σ (k+j) x))) aas):=by
  intro r
  induction r with
  |nil=>intro es k _ j o h;simp at h
  |cons p r ih=>
    intro es k h j o ho
    cases es with
    |nil=>exact h.elim
    |cons e es=>
      cases e with
      |false=>
        obtain⟨⟨needs,t,aas,g1,g2,g3,g4,g5,g6,g7,g8⟩,h2⟩:=h
        cases j with
        |zero=>
          simp at ho;subst ho
          exact⟨false,rfl,needs,t,g1,g2,g3,g4,g5,g7,aas,g6,g8⟩
        |succ j=>
          obtain⟨e',g1,g2⟩:=ih es (k+1) h2 j o (by simpa using ho)
          refine⟨e',by simpa using g1,?_⟩
          rw [show k+1+j=k+(j+1)from by omega]at g2
          exact g2
      |true=>
        obtain⟨⟨needs,t,aas,g1,g2,g3,g4,g5,g6,g7,g8⟩,h2⟩:=h
        cases j with
        |zero=>
          simp at ho;subst ho
          exact⟨true,rfl,needs,t,g1,g2,g3,g4,g5,aas,g6,g7,g8⟩
        |succ j=>
          obtain⟨e',g1,g2⟩:=ih es (k+1) h2 j o (by simpa using ho)
          refine⟨e',by simpa using g1,?_⟩
          rw [show k+1+j=k+(j+1)from by omega]at g2
          exact g2
structure XN(E:En)(G:lW)(l:List Oper)(ts:List TS)(Ss:ZA)(es:List Bool)(done:Array Bool)(a:Act)(w:World)(S:SH)(σ:Nat→OI):Prop where
 ext:gz E.B E.w0 E.S0 w S
 sat:jL w S
 own:cZ E.base E.B w S (QY Ss (Gr es done) σ)
 size:a.tmps.size=E.N.n
 defers:a.defers=E.N.ds
 dsz:done.size=l.length
 down: ∀j o,l[j]? =some o→done.getD j false=true→ ∀e∈o.after,Region.binds .any e=true→done.getD e.on false=true
 old: ∀k t,dm G k=some t→(∀j o,l[j]? =some o→done.getD j false=true→o.dst≠some k)→t.p S (a.tmps.getD k undef)
 new: ∀j o d p,l[j]? =some o→done.getD j false=true→o.dst=some d→ts[j]? =some p→(p.at σ).p S (a.tmps.getD d undef)
 deps: ∀j p,done.getD j false=true→ts[j]? =some p→ ∀k∈p.1,done.getD k false=true
section
variable{ts:List TS}{Ss:ZA}
theorem XN.need(h:XN E G L ts Ss es done a w S σ){i:Nat}(hi:L[i]? =some o)(hun:done.getD i true=false)(hwait: ∀e∈o.after,Region.binds .any e=true→done.getD e.on false=true){needs:List NS}(h1:xd G ts needs)(h2:(needs.all fun n=>qf L o i (n.at fun _=>pj))=true):di E.N S a (w7 needs σ):=by
 have hlt:i<done.size:=by rw [h.dsz];exact(jP.1 hi).1
 have hun' :done.getD i false=false:=by
  simp [hlt]at hun ⊢;exact hun
 refine⟨h.size,h.defers,?_⟩
 have key: ∀n∈needs,(n.ty σ).p S (a.tmps.getD n.slot undef):=by
  intro n hn
  have hs:=ki.1 h2 n hn
  have ho:=h1.mem n hn
  unfold qf NS.at at hs
  unfold WD at ho
  cases hsrc:n.src with
  |some j=>
   rw [hsrc]at hs ho
   simp only [mz]at hs
   obtain⟨hs1,hs2⟩:=hs
   cases hj:L[j]? with
   |none=>rw [hj]at hs1;cases hs1
   |some p=>
    rw [hj]at hs1
    cases hd:p.dst with
    |none=>simp only [hd]at hs1;cases hs1
    |some d=>
     simp only [hd]at hs1
     have hd' :=oV hs1
     subst hd'
     have hdone:done.getD j false=true:=by
      unfold CY at hs2
      obtain⟨e,he0,hb⟩:=uV.1 hs2
      have he:e∈o.after:=by simpa using he0
      simp only [mz]at hb
      have:=hwait e he hb.2
      rwa [oV hb.1]at this
     have hm:=ho σ
     cases hf:ts[j]? with
     |none=>rw [hf]at hm;simp at hm
     |some f=>
      rw [hf]at hm
      have e:f.at σ=n.ty σ:=by simpa using hm
      rw [←e]
      exact h.new j p n.slot f hj hdone hd hf
  |none=>
   rw [hsrc]at hs ho
   refine h.old _ _ (ho σ) fun j p hj hdone hd=>?_
   have:=ki.1 hs p (sM hj)
   simp only [hd,Nat.beq_refl,nh,sy]at this
   unfold CY at this
   obtain⟨e,he0,hb⟩:=uV.1 this
   have he:e∈p.after:=by simpa using he0
   simp only [mz]at hb
   have h3:=h.down j p hj hdone e he hb.2
   rw [oV hb.1]at h3
   rw [h3]at hun'
   cases hun'
 clear h1 h2
 intro k t hk
 unfold w7 at hk
 induction needs with
 |nil=>simp [ko,dm]at hk
 |cons n needs ih=>
  simp only [vm]at hk
  unfold ko dm at hk
  by_cases hb:Nat.beq n.slot k=true
  ·have hb' :Nat.beq (n.at σ).slot k=true:=hb
   rw [hb']at hk
   have:=oV hb
   subst this
   have h9:some (n.at σ).ty=some t:=by simpa using hk
   have e:n.ty σ=t:=p5 h9
   rw [←e]
   exact key n (lb ..)
  ·rw [zW]at hb
   have hb' :Nat.beq (n.at σ).slot k=false:=hb
   rw [hb']at hk
   exact ih (fun m hm=>key m (lc _ hm)) hk
theorem XN.step{σ' :Nat→OI}(h:XN E G L ts Ss es done a w S σ){i:Nat}{p0:TS}{C:Nat→Prop}(hi:L[i]? =some o)(hdN: ∀d,o.dst=some d→d<E.N.n)(hs2: ∀d,o.dst=some d→ ∀j p,L[j]? =some p→done.getD j false=true→p.dst=some d→i=j)(hwait: ∀e∈o.after,Region.binds .any e=true→done.getD e.on false=true)(ht:ts[i]? =some p0)(hun:done.getD i true=false)(hdep: ∀k∈p0.1,k=i∨done.getD k false=true)(hext:gz C w S w' S')(hC: ∀b,C b→E.base≤b∨E.B b)(hsat:jL w' S')(hown:cZ E.base E.B w' S' (QY Ss (Gr es (done.setIfInBounds i true)) σ'))(hσ: ∀k,k≠i→σ' k=σ k)(hv:(p0.at σ').p S' v):
  XN E G L ts Ss es (done.setIfInBounds i true) (a.put o.dst v) w' S' σ' :=by
 have hlt:i<done.size:=by rw [h.dsz];exact(jP.1 hi).1
 have hset: ∀j,(done.setIfInBounds i true).getD j false=true→j=i∨done.getD j false=true:=fun j hj=>by
  by_cases hij:i=j
  ·exact .inl hij.symm
  ·rw [vk false hij]at hj;exact .inr hj
 have hseti:(done.setIfInBounds i true).getD i false=true:=by simp [hlt]
 have hun' :done.getD i false=false:=by simp [hlt]at hun ⊢;exact hun
 have hput: ∀k,(∀d,o.dst=some d→d≠k)→(a.put o.dst v).tmps.getD k undef=a.tmps.getD k undef:=fun k hk=>by
  cases hd:o.dst with
  |none=>rfl
  |some d=>
   have hda:d<a.tmps.size:=by rw [h.size];exact hdN d hd
   rw [rD hda,aX (hk d hd)]
 refine⟨h.ext.step hext hC,hsat,hown,?_,?_,by simp [h.dsz],fun j p hj hdone e he hb=>?_,fun k u hk hno=>?_,fun j p d' u hj hdone hd' hu=>?_,fun j u hj hu k hk=>?_⟩
 ·cases o.dst with
  |none=>exact h.size
  |some d=>simp [Act.put,h.size]
 ·cases o.dst with
  |none=>exact h.defers
  |some d=>exact h.defers
 ·rcases hset j hdone with rfl|hj'
  ·rw [hi]at hj
   have:o=p:=by simpa using hj
   subst this
   exact vZ (hwait e he hb)
  ·exact vZ (h.down j p hj hj' e he hb)
 ·rw [hput k fun d hd e=>hno i o hi hseti (by rw [hd,e])]
  exact u.mono hext.keep (h.old k u hk fun j p hj hdone=>hno j p hj (vZ hdone))
 ·by_cases hij:j=i
  ·subst hij
   rw [hi]at hj
   have:o=p:=by simpa using hj
   subst this
   have hda:d' <a.tmps.size:=by rw [h.size];exact hdN d' hd'
   rw [hd',rD hda,bk rfl]
   rw [ht]at hu
   have:p0=u:=by simpa using hu
   subst this
   exact hv
  ·have hj' :=(hset j hdone).resolve_left hij
   rw [hput d' fun d hd e=>by subst e;exact hij (hs2 d hd j p hj hj' hd').symm]
   have e1:u.at σ' =u.at σ:=congrArg u.2 (Ju fun k hk=>hσ k fun e=>by
     subst e
     rw [h.deps j u hj' hu k hk]at hun';cases hun')
   rw [e1]
   exact Ty.mono _ hext.keep (h.new j p d' u hj hj' hd' hu)
 ·rcases hset j hj with rfl|hj'
  ·rw [ht]at hu
   have:p0=u:=by simpa using hu
   subst this
   rcases hdep k hk with rfl|h'
   ·exact hseti
   ·exact vZ h'
  ·exact vZ (h.deps j u hj' hu k hk)
end
theorem JD{l t:List Oper}{ts:List TS}{Ss:ZA}(hsl:xJ E.N.n [] l=true)(hlen:ts.length=l.length)(hesl:es.length=l.length)(hd:DT E G (l++t) ts Ss es 0 l es)(ht:zx (l++t) l.length t.length=true)(hQ: ∀a w S σ,St E (QY Ss (Dz es) σ) (Ks l (TD ts σ) G) a w S→wpListIn (fw E.r) 0 E.P (l++t).toArray Q t a w):
  ∀(fuel:Nat) (done:Array Bool) (a:Act) (w:World) (S:SH) (σ:Nat→OI),lH done=fuel→(∀j,l.length≤j→done.getD j false=false)→XN E G (l++t) ts Ss es done a w S σ→wpAnyIn (fw E.r) 0 E.P .any (l++t).toArray Q fuel done a w:=by
 have hL1: ∀i o,i<l.length→(l++t)[i]? =some o→l[i]? =some o:=fun i o hi h=>by rwa [B0 hi]at h
 have hL2: ∀i o,l[i]? =some o→(l++t)[i]? =some o:=fun i o h=>by rw [B0 (jP.1 h).1];exact h
 have htail: ∀m o,l.length≤m→(l++t)[m]? =some o→wM (l++t) m=true∧fd m o=true:=fun m o hm ho=>by
  have hml:m<(l++t).length:=(jP.1 ho).1
  rw [jx]at hml
  unfold zx at ht
  have:=ki.1 ht (m-l.length) (by simp;omega)
  rw [show l.length+(m-l.length)=m from by omega,ho]at this
  simp only [mz]at this
  exact⟨this.1,this.2.1⟩
 have hget:=fun i o (hi:l[i]? =some o)=>DT.get l es 0 hd i o hi
 have hedge: ∀i o,(l++t)[i]? =some o→fd i o=true:=fun i o hi=>by
  rcases nL i l.length with h|h
  ·obtain⟨_,_,_,_,_,_,_,h,_⟩:=hget i o (hL1 i o h hi)
   simpa using h
  ·exact(htail i o h hi).2
 obtain⟨hs1,hs2⟩:=C1 l [] hsl
 have fin: ∀fuel done a w S σ,lH done=fuel→(∀j,l.length≤j→done.getD j false=false)→XN E G (l++t) ts Ss es done a w S σ→(∀i,i<l.length→done.getD i false=true)→wpAnyIn (fw E.r) 0 E.P .any (l++t).toArray Q fuel done a w:=by
  intro fuel done a w S σ hu hfree h hall
  have hdn:Gr es done=Dz es:=by
   unfold Gr Dz
   refine List.filter_congr fun k hk=>?_
   rw [hall k (by rw [←hesl];exact List.mem_range.1 hk),zq]
  have hown:=h.own
  rw [hdn]at hown
  refine z6 (n:=l.length) (fun m o hm ho=>(htail m o hm ho).1) hedge t l.length done fuel a w (dY _) (by simp) h.dsz (fun j hj=>⟨fun hjd=>?_,fun hlt=>hall j hlt⟩) hu
   (hQ a w S σ ⟨h.ext,h.sat,hown,h.size,h.defers,fun j u hj=>?_⟩)
  ·rcases nL j l.length with h' |h'
   ·exact h'
   ·rw [hfree j h']at hjd;cases hjd
  ·rcases G4 l (TD ts σ) j u (by unfold TD;rw [CQ];exact hlen) hj with⟨i,o,h1,h2,h3⟩|⟨h1,h2⟩
   ·unfold TD at h3
    rw [CT]at h3
    cases hf:ts[i]? with
    |none=>rw [hf]at h3;simp at h3
    |some f=>
     rw [hf]at h3
     have e:f.at σ=u:=by simpa using h3
     rw [←e]
     exact h.new i o j f (hL2 i o h1) (hall i (jP.1 h1).1) h2 hf
   ·refine h.old j u h1 fun i o ho hdn=>?_
    rcases nL i l.length with h' |h'
    ·exact h2 o (sM (hL1 i o h' ho))
    ·rw [hfree i h']at hdn;cases hdn
 have lower: ∀done a w S σ i,(∀j,l.length≤j→done.getD j false=false)→XN E G (l++t) ts Ss es done a w S σ→i∈Region.ready .any (l++t).toArray done→l.length≤i→ ∀j,j<l.length→done.getD j false=true:=by
  intro done a w S σ i hfree h hi hge j hj
  obtain⟨hun,p,hp,hwait⟩:=tw.1 hi
  have hp' :(l++t)[i]? =some p:=by simpa using hp
  have hcov:=(htail i p hge hp').1
  unfold wM at hcov
  have hre:=ki.1 hcov j (by simp;omega)
  exact gF h.down _ i j (fun q hq e he hb=>by
   have:q=p:=by rw [hp']at hq;simpa using hq.symm
   subst this
   exact hwait e he hb) hre
 intro fuel
 induction fuel with
 |zero=>
  intro done a w S σ hu hfree h
  exact fin 0 done a w S σ hu hfree h fun i hi=>uy hu (by rw [h.dsz,jx];omega)
 |succ fuel ih=>
  intro done a w S σ hu hfree h
  by_cases hall: ∀i,i<l.length→done.getD i false=true
  ·exact fin _ done a w S σ hu hfree h hall
  have hready0: ∀m i,i<m→i<l.length→Region.ready .any (l++t).toArray done=[]→done.getD i false=true:=by
   intro m
   induction m with
   |zero=>intro i h;omega
   |succ m ihm=>
    intro i him hil hr
    have his:i<done.size:=by rw [h.dsz,jx];omega
    by_cases hdn:done.getD i true=true
    ·rw [←oF his];exact hdn
    ·exfalso
     obtain⟨o,ho⟩: ∃o,(l++t)[i]? =some o:=⟨l[i],hL2 i _ (ph hil)⟩
     have hmem:i∈Region.ready .any (l++t).toArray done:=by
      rw [tw]
      refine⟨by simpa using hdn,o,by simpa using ho,fun e he hb=>?_⟩
      have:=hedge i o ho
      unfold fd at this
      have:=ki.1 this e (by simpa using he)
      simp only [hb,nh,sy,vY]at this
      exact ihm e.on (by omega) (by omega) hr
     rw [hr]at hmem;cases hmem
  refine⟨fun hr=>absurd (fun i hi=>hready0 (i+1) i (by omega) hi hr) hall,fun i hi=>?_⟩
  have hil:i<l.length:=by
   rcases nL i l.length with h' |h'
   ·exact h'
   ·exact absurd (lower done a w S σ i hfree h hi h') hall
  obtain⟨hun,o,ho,hwait⟩:=tw.1 hi
  have ho' :(l++t)[i]? =some o:=by simpa using ho
  have hol:=hL1 i o hil ho'
  obtain⟨e,he,needs,u,h1,h2,h3,_,h4,h5⟩:=hget i o hol
  rw [ve]at h1 h3 h4
  have hF:=h.need ho' hun hwait h2 h3
  have his:i<done.size:=by rw [h.dsz,jx];omega
  have hun' :done.getD i false=false:=by rw [←oF his];exact hun
  have hu' :lH (done.setIfInBounds i true)=fuel:=by have:=qU hun;omega
  have huq: ∀d,o.dst=some d→ ∀j p,(l++t)[j]? =some p→done.getD j false=true→p.dst=some d→i=j:=fun d hdd j p hj hjd hpd=>by
   rcases nL j l.length with h' |h'
   ·exact hs2 i j o p d hol (hL1 j p h' hj) hdd hpd
   ·rw [hfree j h']at hjd;cases hjd
  have hfree' : ∀j,l.length≤j→(done.setIfInBounds i true).getD j false=false:=fun j hj=>by
   rw [vk false (by omega)];exact hfree j hj
  have hbl:E.base≤w.heap.size:=h.ext.size
  have hwaits: ∀q,(l++t)[i]? =some q→ ∀e∈q.after,Region.binds .any e=true→done.getD e.on false=true:=fun q hq e he hb=>by
   have:q=o:=by rw [ho']at hq;simpa using hq.symm
   subst this
   exact hwait e he hb
  have hdpp: ∀k∈u.1,k=i∨done.getD k false=true:=fun k hk=>by
   have:=ki.1 h4 k hk
   simp only [mz,qO]at this
   rcases this.2 with hb|hb
   ·exact .inl (oV hb)
   ·exact .inr (gF h.down _ i k hwaits hb)
  have hdNN: ∀d,o.dst=some d→d<E.N.n:=fun d hd=>(hs1 o (sM hol) d hd).1
  unfold wpOpIn
  rw [ho]
  show if _ then _ else _
  -- just these effects stand
  have hpos:noE (l++t) es i (Gr es done)=false:=by
   rw [sL]
   intro hno
   unfold noE at hno
   rw [qO]at hno
   rcases hno with hc|hc
   ·have:=(Bf.1 (Jw.1 hc)).2
    rw [this]at hun';cases hun'
   ·obtain⟨k,hk1,hk2⟩:=uV.1 hc
    have hke:es[k]? =some true:=by
     unfold Dz at hk1
     rw [Gx,List.mem_range]at hk1
     have h7:=hk1.2
     rw [ph hk1.1]at h7 ⊢
     simpa using h7
    by_cases hin:(Gr es done).contains k=true
    ·rw [bk hin,qO]at hk2
     have hkd:=(Bf.1 (Jw.1 hin)).2
     rcases hk2 with hb|hb
     ·have:=gF h.down _ k i (fun q hq e he hb=>h.down k q hq hkd e he hb) hb
      rw [this]at hun';cases hun'
     ·obtain⟨j,hj1,hj2⟩:=uV.1 hb
      rw [mz,Dn]at hj2
      have hje:es[j]? =some true:=by
       unfold Dz at hj1
       rw [Gx,List.mem_range]at hj1
       have h7:=hj1.2
       rw [ph hj1.1]at h7 ⊢
       simpa using h7
      have hjd:=gF h.down _ k j (fun q hq e he hb=>h.down k q hq hkd e he hb) hj2.2
      have:=Jw.2 (Bf.2 ⟨hje,hjd⟩)
      rw [hj2.1]at this;cases this
    ·rw [aX hin]at hk2
     have hkd:=gF h.down _ i k hwaits hk2
     exact hin (Jw.2 (Bf.2 ⟨hke,hkd⟩))
  have hwin: ∀aas:List (List Nat),PL (l++t) es i aas=true→Gr es done∈aas:=by
   intro aas hw
   unfold PL at hw
   have:=ki.1 hw _ (SO es done)
   rw [hpos,sy]at this
   obtain⟨b,hb1,hb2⟩:=uV.1 this
   rw [←No hb2];exact hb1
  cases e with
  |false=>
   simp only at h5
   obtain⟨hdS,aas,hw,h5⟩:=h5
   rw [ve]at hw
   obtain⟨d,hdd⟩:=Option.isSome_iff_exists.1 hdS
   have h6:=h5.mem _ (hwin aas hw) σ a w S h.sat h.own hF
   have hdq:=QA (done:=done) he
   by_cases hw:Region.wanted o (yielded (l++t).toArray a.tmps)=true
   ·rw [bk hw]at h6 ⊢
    refine lk (fun a' w' ⟨v,S',ha,hx,hs,hv⟩=>?_) h6
    subst ha
    exact ih _ _ _ S' _ hu' hfree' (h.step ho' hdNN huq hwait h1 hun hdpp hx (fun _ hb=>hb.elim) hs (by rw [hdq];exact h.own.ext0 hx) (fun _ _=>rfl) hv)
   ·rw [aX hw]at h6 ⊢
    exact⟨fun _ _=>trivial,ih _ _ _ S _ hu' hfree' (h.step ho' hdNN huq hwait h1 hun hdpp (gz.refl p7 _ _) (fun _ hb=>hb.elim) h.sat (by rw [hdq];exact h.own) (fun _ _=>rfl) h6)⟩
  |true=>
   simp only [ve]at h5
   obtain⟨aas,hw,hins,h5⟩:=h5
   obtain⟨p,hp1,hp2⟩:=vl.1 (hwin _ hw)
   have hp3:=No (ki.1 hins p hp1)
   have h6:=h5.mem p hp1 σ a w S h.sat (by rw [hp2];exact h.own) hF hbl
   have hdq:Gr es (done.setIfInBounds i true)=p.2:=by rw [Wg he his,←hp2,hp3]
   by_cases hw:Region.wanted o (yielded (l++t).toArray a.tmps)=true
   ·rw [bk hw]at h6 ⊢
    refine lk (fun a' w' ⟨v,S',x,ha,hx,hs,hown,hv⟩=>?_) h6
    subst ha
    exact ih _ _ _ S' _ hu' hfree' (h.step ho' hdNN huq hwait h1 hun hdpp hx (fun b ⟨f,hf,hb⟩=>(cZ.mem h.own f (by rw [←hp2];exact hf)).2 b hb) hs (by rw [hdq];exact hown) (fun k hk=>Eh σ x hk) hv)
   ·rw [aX hw]at h6 ⊢
    obtain⟨x,hown,hv⟩:=h6
    exact⟨fun _ _=>trivial,ih _ _ _ S _ hu' hfree' (h.step ho' hdNN huq hwait h1 hun hdpp (gz.refl p7 _ _) (fun _ hb=>hb.elim) h.sat (by rw [hdq];exact hown) (fun k hk=>Eh σ x hk) hv)⟩
theorem Tz{id:Nat}(m:Nat)(ts:List TS)(es:List Bool)(Ss:ZA)(hO: ∀σ,QY Ss [] σ=O)(hm:E.P.follows .mixedOrders=true)(hsl:xJ E.N.n [] (L.take m)=true)(hlen:ts.length=(L.take m).length)(hesl:es.length=(L.take m).length)(ht:zx L (L.take m).length (L.drop m).length=true)(hd:DT E G L ts Ss es 0 (L.take m) es)(k: ∀σ:Nat→OI,RG E L.toArray Q (L.drop m) (QY Ss (Dz es) σ) (Ks (L.take m) (TD ts σ) G)):CG E Q (.region id L.toArray true) O G:=fun a w S st=>by
 have hL:L=L.take m++L.drop m:=(ut m L).symm
 generalize L.take m=l at hL hsl hlen hesl ht hd k
 generalize L.drop m=t at hL ht k
 subst hL
 refine wpIn_region_any hm ?_
 obtain⟨he,hs⟩:=yq (w:=w) st.sat
 have hdn0:Gr es (Array.replicate (l++t).toArray.size false)=[]:=by
  unfold Gr
  refine List.filter_eq_nil_iff.2 fun k hk=>?_
  simp [zY]
  intro _
  split<;>simp
 refine JD hsl hlen hesl hd ht (fun a w S σ st=>k σ a w S st) _ _ _ _ S (fun _=>pj) ?_ (fun j _=>?_)
  ⟨st.ext.step0 he,hs,by rw [hdn0,hO];exact st.own.ext0 he,st.facts.size,st.facts.defers,by simp,fun j o hj hdone=>?_,fun k t hk _=>st.facts.at_ k t hk,fun j o d t hj hdone=>?_,fun j p hdone=>?_⟩
 ·unfold lH;rw [NV,NT];simp
 ·simp [zY];split<;>rfl
 ·simp [zY]at hdone
  split at hdone<;>simp at hdone
 ·simp [zY]at hdone
  split at hdone<;>simp at hdone
 ·simp [zY]at hdone
  split at hdone<;>simp at hdone

theorem cZ.perm(h:O.Perm O'):cZ base B w S O→cZ base B w S O' :=by
 induction h with
 |nil=>exact id
 |cons x p ih=>
  rintro⟨h1,h2,h3⟩
  exact⟨h1,fun f hf=>h2 f (p.mem_iff.2 hf),ih h3⟩
 |swap x y l=>
  rintro⟨h1,h2,h3,h4,h5⟩
  refine⟨h3,fun f hf k hk hfk=>?_,h1,fun f hf=>h2 f (lc _ hf),h5⟩
  rcases gk.1 hf with rfl|hf
  ·exact h2 x (lb ..) k hfk hk
  ·exact h4 f hf k hk hfk
 |trans _ _ ih1 ih2=>exact fun k=>ih2 (ih1 k)
def uF(O:List OE):List Nat→List OE
 |[]=>[]
 |i::l=>match O[i]? with
  |some e=>e::uF O l
  |none=>uF O l
theorem Ba(O:List OE): ∀a b:List Nat,uF O (a++b)=uF O a++uF O b
 |[],_=>rfl
 |i::a,b=>by
  simp only [xo,uF]
  split<;>simp [Ba O a b]
theorem MI{a b:List Nat}(h:a.Perm b):(uF O a).Perm (uF O b):=by
 induction h with
 |nil=>exact .nil
 |cons x p ih=>
  simp only [uF]
  split
  ·exact .cons _ ih
  ·exact ih
 |swap x y l=>
  simp only [uF]
  cases hx:O[x]? <;>cases hy:O[y]? <;>simp<;>exact .swap ..
 |trans _ _ ih1 ih2=>exact ih1.trans ih2
theorem Kl(O:List OE):uF O (List.range O.length)=O:=by
 have key: ∀n,n≤O.length→uF O (List.range n)=O.take n:=by
  intro n
  induction n with
  |zero=>intro _;rfl
  |succ n ih=>
   intro h
   rw [List.range_succ,Ba,ih (by omega)]
   simp only [uF]
   rw [ph (by omega),Jy (by omega)]
 rw [key _ (dY _),xy]
theorem cZ.pick(l:List Nat)(hl:l.isPerm (List.range O.length)=true)(h:cZ base B w S O):cZ base B w S (uF O l):=
 h.perm (by
  have:=MI (O:=O) (List.isPerm_iff.1 hl)
  rw [Kl]at this
  exact this.symm)

def NO{α β:Type}(r:Rp α)(off:Nat)(q:Rp β)(x:α)(y:β):Prop:= ∀S cs,r.rc S cs x→off+q.sz≤cs.length∧q.rc S ((cs.drop off).take q.sz) y
theorem jq{x:α}:NO r 0 r x x:=fun S cs h=>by
 have hl:=r.len h
 refine⟨by omega,?_⟩
 rw [xn,sC (by omega)];exact h
variable{off' :Nat}
theorem mi{γ:Type}{p:Rp γ}{o:Nat}{x:α}{get:β→γ}(h:NO r off q x y)(k:pY q o p get)(hb:Nat.ble (o+p.sz) q.sz=true)(he:off+o=off'):NO r off' p x (get y):=fun S cs hc=>by
 subst he
 obtain⟨h1,h2⟩:=h S cs hc
 have hb' :=oP hb
 have h3:=k S _ _ h2
 refine⟨by omega,?_⟩
 rwa [wX,za,oO,AG (by omega)]at h3
theorem yd{x:α}{xs:List β}{i:Int}(h:NO r off (n8 q n) x xs)(hy:de xs i=some y):NO r (off+i.toNat*q.sz) q x y:=fun S cs hc=>by
 obtain⟨h1,h2⟩:=h S cs hc
 obtain⟨h0,hy'⟩:=lC hy
 have hlt:=(jP.1 hy').1
 have hn:xs.length=n:=h2.1
 have h3:=A8 h2.2 hy'
 have e:(n8 q n).sz=n*q.sz:=rfl
 have hmul:i.toNat*q.sz+q.sz≤n*q.sz:=by rw [←CN];exact zd _ (by omega)
 refine⟨by omega,?_⟩
 rwa [wX,za,oO,e,AG (by omega)]at h3
def Qo(i:Int)(n:Nat):Option Unit:=if 0≤i∧i<(n:Int)then some ()else none
theorem g9{i:Int}{u:Unit}(h:Qo i n=some u):0≤i∧i<(n:Int):=by
 unfold Qo at h
 split at h
 ·assumption
 ·cases h
theorem rQ{xs:List β}{v:β}{i:Int}(hi:0≤i∧i<(n:Int)):qM (n8 q n) (n8 q n) (i.toNat*q.sz) q xs v (xs.set i.toNat v):=fun S cs ds ⟨h1,h2⟩ hd=>
 ⟨by rw [Gy];exact h1,A7 hd h2 (by omega)⟩
theorem rR{γ:Type}{p:Rp γ}{o:Nat}{x x' :α}{y' :β}{v:γ}(hf:NO r off q x y)(hi:qM q q o p y v y')(ho:qM r r off q x y' x')(hb:o+p.sz≤q.sz)(he:off+o=off'):qM r r off' p x v x' :=fun S cs ds hc hd=>by
 subst he
 obtain⟨h1,h2⟩:=hf S cs hc
 have hl:=p.len hd
 have h3:=hi S _ ds h2 hd
 have h4:=ho S cs _ hc h3
 have e:cs.take off++(((cs.drop off).take q.sz).take o++ds++((cs.drop off).take q.sz).drop (o+p.sz))++cs.drop (off+q.sz)=cs.take (off+o)++ds++cs.drop (off+o+p.sz):=by
  have e1:((cs.drop off).take q.sz).take o=(cs.drop off).take o:=by rw [za,AG (by omega)]
  have e2:cs.take off++(cs.drop off).take o=cs.take (off+o):=(List.take_add).symm
  have e3:((cs.drop off).take q.sz).drop (o+p.sz)++cs.drop (off+q.sz)=cs.drop (off+o+p.sz):=by
   rw [wX,oO]
   have:cs.drop (off+q.sz)=(cs.drop (off+(o+p.sz))).drop (q.sz-(o+p.sz)):=by rw [oO];congr 1;omega
   rw [this,ut,Nat.add_assoc]
  rw [e1]
  simp only [jO]
  rw [e3,←jO,e2]
 rwa [e]at h4
theorem oH{q:Nat}{i:Int}(hi:0≤i∧i<(n:Int)):i.toNat*q+q≤n*q:=by
 rw [←CN];exact zd _ (by omega)
theorem uN{R:Nat}{i:Int}(hi:0≤i∧i<(n:Int))(h:Nat.ble (d+n*sz) R=true):d+i.toNat*sz+sz≤R:=by
 have h1:=oP h
 have h2:=oH (q:=sz) hi
 omega
section
section
variable{ty:TypeId}
theorem fO{ix:Operand}{k:IntKind}{i:Int}(ht:E.P.underlying t=some (.array n e))(ti:TI E.P e sz bytes agg z)(hx:aO E.N G x (tV (aS b off)))(hi:aO E.N G ix (tD (rI k) i))(hy:0≤i∧i<(n:Int)):
  bZ E O G ⟨dst,.indexAddr t x ix,ty,pos,after,g⟩ (tV (aS b (off+i.toNat*sz))):=
 .of_pure fun a w S _ ho hf=>by
  have h1:a.eval x=aS b off:=hx S a hf
  have h5:a.eval ix= .int k i:=cY.1 (hi S a hf)
  refine⟨_,?_,rfl⟩
  simp [execOp,h1,h5,aS,Instr.indexAt,asIntOf,lF ht,Instr.sureAddr,hy,ti.sizeOf,jK]
theorem xW{x:α}(ti:TI E.P U sz bytes agg z)(hsz:q.sz=sz)(hag:q.agg=agg)(hm:bx r T b x∈O)(hy:NO r off q x y)(hp:aO E.N G p (tV (aS b off))):bZ E O G ⟨dst,.load U p,ty,pos,after,g⟩ (tD q y):=
 .of_pure fun a w S _ ho hf=>by
  have h1:a.eval p=aS b off:=hp S a hf
  obtain⟨⟨_,cur,h5,h6⟩,_⟩:=ho.mem _ hm
  have h7:=(hy S _ h6).2
  refine⟨_,?_,_,rfl,h7⟩
  simp [execOp,h1,aS,Instr.loadAt,Instr.sureAddr,kS ti h5 hsz hag h7]
theorem om{x x' :α}{y0:β}{v:Operand}(ti:TI E.P U sz bytes agg z)(hsz:q.sz=sz)(hset:qM r r off q x y x')(hfit:off+q.sz≤r.sz)(hp:aO E.N G p (tV (aS b off)))(hv:aO E.N G v (tD q y)):EffOK E (bx r T b x::O) G ⟨none,.store U p v,ty,pos,after,g⟩ (fun _=>bx r T b x' ::O) (fun _=>AX):=BB (fun _ h=>(by cases h)) fun a w S hsat hown hf hbase=>by
 have h1:a.eval p=aS b off:=hp S a hf
 obtain⟨ds,h2,h3⟩:=hv S a hf
 obtain⟨⟨hno,cur,h5,h6⟩,_⟩:=hown.1
 have hl:=r.len h6
 obtain⟨w',hr,e1,e2,e3,e4,e5,e6⟩:=jW ti hsz h3 h5 (off:=off) (by simp at hl;omega)
 have hrun:(execOp a.eval ⟨none,.store U p v,ty,pos,after,g⟩).run E.P w= .ok .skip w' :=by
  simp [execOp,h1,h2,Instr.storeAt,aS,Instr.sureAddr,hr]
 obtain⟨g1,g2,g3⟩:=pS (O:=O) hsat (bx r T b x) (bx r T b x') hown (fun _=>vi) (fun _=>vi) ⟨e1,e2,e3,e4.1,e4.2⟩ e6 ⟨hno,_,e5,by simpa using hset S _ _ h6 h3⟩ hno
 exact⟨w',S,pj,hrun,g1.more fun c hc=>⟨_,lb ..,hc⟩,g2,g3⟩
end
def BA{α:Type}(E:En)(G:lW)(r:Rp α)(n:Nat):List α→List (Nat×Operand)→List α→Prop
 |x,[],y=>x=y
 |x,(i,o)::rest,y=> ∃v:α,Nat.blt i n=true∧aO E.N G o (tD r v)∧BA E G r n (x.set i v) rest y
theorem La{α:Type}{r:Rp α}{n:Nat}{S:SH}{a:Act}(hF:di E.N S a G): ∀(parts:List (Nat×Operand)) (x y:List α) (cs:List Value),BA E G r n x parts y→(n8 r n).rc S cs x→
  ∃ds,(n8 r n).rc S ds y∧Instr.fill (fun i=>some (i*r.sz,r.sz)) cs.toArray (parts.map fun p=>(p.1,a.eval p.2))=some ds.toArray
 |[],x,y,cs,h,hx=>by
  have e:x=y:=h
  subst e
  exact⟨cs,hx,rfl⟩
 |(i,o)::rest,x,y,cs,⟨v,h1,h4,h5⟩,hx=>by
  obtain⟨c,hv,hc⟩:=h4 S a hF
  have hi:i<n:=by simpa [vY] using h1
  have hl:=r.len hc
  have hlr:cs.length=n*r.sz:=(n8 r n).len hx
  have hmul:i*r.sz+r.sz≤n*r.sz:=by rw [←CN];exact zd _ hi
  have hcells:(a.eval o).cells=c.toArray:=by rw [hv];exact s9 hc
  have hset:(n8 r n).rc S (cs.take (i*r.sz)++c++cs.drop (i*r.sz+r.sz)) (x.set i v):=⟨by rw [Gy];exact hx.1,A7 hc hx.2 (by have:=hx.1;omega)⟩
  obtain⟨ds,h6,h7⟩:=La hF rest _ y _ h5 hset
  refine⟨ds,h6,?_⟩
  have hs:(a.eval o).cells.size=r.sz:=by rw [hcells];simpa using hl
  have h8:=wl (a.eval o) (i*r.sz) (cs.take (i*r.sz)) ((cs.drop (i*r.sz)).take r.sz) (cs.drop (i*r.sz+r.sz)) (by rw [hs];simp;omega) (by simp;omega)
  have e1:cs.take (i*r.sz)++(cs.drop (i*r.sz)).take r.sz++cs.drop (i*r.sz+r.sz)=cs:=by
   rw [jO,←oO,ut,ut]
  rw [e1]at h8
  simp only [vm,Instr.fill]
  rw [aX (by simp [hs,hlr];omega),h8,hcells]
  simpa using h7
theorem ET{ty:TypeId}{x:List α}{parts:List (Nat×Operand)}{sz' bytes' :Nat}{agg' :Bool}{z' :List Value}(ht:E.P.underlying t=some (.array n T))(ti:TI E.P T sz bytes agg z)(hsz:r.sz=sz)(tj:TI E.P t sz' bytes' agg' z')(hz: ∀S,(n8 r n).rc S z' x)(hx:BA E G r n x parts ys):bZ E O G ⟨dst,.build t parts.toArray,ty,pos,after,g⟩ (tD (n8 r n) ys):=
 .of_pure fun a w S _ _ hF=>by
  obtain⟨zv,hzr,hzc⟩:=tj.zero w
  obtain⟨ds,h1,h2⟩:=La hF parts x ys z' hx (hz S)
  subst hsz
  refine⟨.agg ds.toArray,?_,ds,rfl,h1⟩
  have hm:(parts.toArray.map fun(i,x)=>(i,a.eval x)).toList=parts.map fun p=>(p.1,a.eval p.2):=by simp
  simp only [execOp,Instr.build,vf,hzr,xf,lF ht,ti.sizeOf,hzc,hm,h2]
  simp
end
open Go.ChangeShapes Go.WideShapes Go.ChangeAt

variable{W:World}
section
variable{H:Type}{enc:TypeId×Value→H}
def Gm(W:World):SH:=fun b=>W.heap[b]?
theorem Ye(W:World)(hg: ∀p∈glob,∃c T fr,W.heap[p.1]? =some (.cells c T fr)∧c.toList.take p.2.length=p.2)(ht: ∀w' :World,(∀(b:Nat) (o:Obj),W.heap[b]? =some o→ ∃o',w'.heap[b]? =some o' ∧Ku o o')→ZR w'):jL W (Gm W):=⟨fun _ o h=>⟨o,h,vC o⟩,hg,ht⟩
def FY(enc:TypeId×Value→H)(P:Program)(W:World){α:Type}(t:TypeId)(r:Rp α):Prop:=
 P.cellsOf t=r.sz∧ ∀fuel cs x,DataW.trod enc P W 0 (fun _=>true) true fuel t cs=some x→ ∃y,r.rc (Gm W) cs y
theorem vE{α β:Type}{f:α→Option β}: ∀{l:List α} {r:List β},l.mapM f=some r→r.length=l.length∧ ∀(i:Nat) (x:α),l[i]? =some x→ ∃y,r[i]? =some y∧f x=some y
 |[],r,h=>by
  simp at h
  subst h
  exact⟨rfl,fun i x hx=>by simp at hx⟩
 |a::l,r,h=>by
  rw [List.mapM_cons]at h
  cases hf:f a with
  |none=>rw [hf]at h;simp at h
  |some b=>
   rw [hf]at h
   cases hm:l.mapM f with
   |none=>rw [hm]at h;simp at h
   |some r' =>
    rw [hm]at h
    simp at h
    subst h
    obtain⟨h1,h2⟩:=vE hm
    refine⟨by simp [h1],fun i x hx=>?_⟩
    cases i with
    |zero=>simp at hx;subst hx;exact⟨b,rfl,hf⟩
    |succ i=>exact h2 i x (by simpa using hx)
theorem Cy{a:Addr}(h:W.cell? a=some v):a.spot=none∧ ∃c E fr,W.heap[a.block]? =some (.cells c E fr)∧c[a.off]? =some v:=by
 unfold World.cell? at h
 cases ho:W.heap[a.block]? with
 |none=>rw [ho]at h;cases h
 |some o=>
  rw [ho]at h
  cases o with
  |cells c E fr=>
   simp only at h
   by_cases hs:a.spot.isSome=true
   ·rw [bk hs]at h;cases h
   ·rw [aX hs]at h
    exact⟨by cases hq:a.spot with
     |none=>rfl
     |some s=>rw [hq]at hs;simp at hs,c,E,fr,rfl,h⟩
  |_=>simp at h
theorem Hq(a:Addr):a.add 0=a:=by unfold Addr.add;rfl
theorem Nx(h:W.cells? 0 ⟨b,off,none⟩ n=some cs)(hn:0<n): ∃c E fr,W.heap[b]? =some (.cells c E fr)∧cs=(c.toList.drop off).take n:=by
 unfold World.cells? at h
 rw [bk (mA _)]at h
 obtain⟨h1,h2⟩:=vE h
 obtain⟨v,_,hv⟩:=h2 0 0 (by simp [hn])
 obtain⟨_,c,E,fr,h3,h4⟩:=Cy hv
 refine⟨c,E,fr,by simpa [Addr.add] using h3,?_⟩
 apply Jt
 intro i
 have hl:cs.length=n:=by simpa using h1
 by_cases hi:i<n
 ·obtain⟨v,h5,h6⟩:=h2 i i (by simp [hi])
  obtain⟨_,c',E',fr',h7,h8⟩:=Cy h6
  rw [jK]at h7 h8
  have h7' :W.heap[b]? =some (.cells c' E' fr'):=h7
  have h3' :W.heap[b]? =some (.cells c E fr):=by simpa [Addr.add] using h3
  rw [h3']at h7'
  injection h7' with h7'
  injection h7' with e1
  subst e1
  rw [h5,BZ hi,xr]
  simpa using h8.symm
 ·rw [D9 (by omega),D9 (by simp;omega)]
theorem PN{q:Rp α}{len:Nat}{a:Addr}{x:DataW H×List MemPlace}(h0' :0<q.sz)(hq:FY enc P W e q)(hx:(let elemAt (i:Nat):Option (DataW H×List MemPlace):=(W.cells? 0 (a.add (i*P.cellsOf e)) (P.cellsOf e)).bind (DataW.trod enc P W 0 (fun _=>true) true n e)
   if 0≤a.block∧len≤cap∧cap≤maxLen then
    ((List.range len).mapM elemAt).bind fun elems=>
     (if(fun _=>true) a.block then(List.range (cap-len)).mapM fun j=>elemAt (len+j)else some []).map fun rest=>
      (DataW.slice (elems.map (·.1)) (rest.map (·.1)),MemPlace.row a ((elems.length+rest.length)*P.cellsOf e)++(elems++rest).flatMap (·.2))
   else none)=some x): ∃y,(ik q).rc (Gm W) [.slice (some a) len cap] y:=by
 simp only at hx
 split at hx
 ·rename_i hcond
  obtain⟨_,hle,hmax⟩:=hcond
  cases hm:(List.range len).mapM (fun i=>(W.cells? 0 (a.add (i*P.cellsOf e)) (P.cellsOf e)).bind (DataW.trod enc P W 0 (fun _=>true) true n e))with
  |none=>rw [hm]at hx;simp at hx
  |some elems=>
   obtain⟨hm1,hm2⟩:=vE hm
   rw [hq.1]at hm2
   by_cases hl0:len=0
   ·subst hl0;exact⟨[],some a,cap,rfl,mA _,hmax,.inl rfl⟩
   have hsp0:a.spot=none:=by
    obtain⟨z,_,hz⟩:=hm2 0 0 (by rw [List.getElem?_range (by omega)])
    rw [Nat.zero_mul,Hq]at hz
    cases hcs:W.cells? 0 a q.sz with
    |none=>rw [hcs]at hz;simp at hz
    |some cs1=>
     unfold World.cells? at hcs
     rw [bk (mA _)]at hcs
     obtain⟨_,g2⟩:=vE hcs
     obtain⟨v,_,hv⟩:=g2 0 0 (by simp [h0'])
     rw [Hq]at hv
     exact(Cy hv).1
   have hcell: ∀i,i<len→ ∃c E fr,a.spot=none∧W.heap[a.block]? =some (.cells c E fr)∧ ∃y,q.rc (Gm W) ((c.toList.drop (a.off+i*q.sz)).take q.sz) y:=by
    intro i hi
    obtain⟨z,_,hz⟩:=hm2 i i (by simp [hi])
    cases hcs:W.cells? 0 (a.add (i*q.sz)) q.sz with
    |none=>rw [hcs]at hz;simp at hz
    |some cs1=>
     rw [hcs]at hz
     have hsp:a.spot=none:=hsp0
     obtain⟨ab,ao,az⟩:=a
     simp only at hsp
     subst hsp
     rw [jK]at hcs
     obtain⟨c,E,fr,g1,g2⟩:=Nx hcs h0'
     obtain⟨y,hy⟩:=hq.2 n cs1 z hz
     exact⟨c,E,fr,rfl,g1,y,by rw [←g2];exact hy⟩
   obtain⟨c,E,fr,hsp,hb,_⟩:=hcell 0 (by omega)
   have key: ∀m,m≤len→ ∃ys:List α,ys.length=m∧u9 q (Gm W) ((c.toList.drop a.off).take (m*q.sz)) ys:=by
    intro m
    induction m with
    |zero=>intro _;exact⟨[],rfl,by simp [u9]⟩
    |succ m ih=>
     intro hm'
     obtain⟨ys,hy1,hy2⟩:=ih (by omega)
     obtain⟨c',E',fr',_,hb',y,hy⟩:=hcell m (by omega)
     rw [hb]at hb'
     injection hb' with hb'
     injection hb' with e1
     subst e1
     refine⟨ys++[y],by simp [hy1],?_⟩
     have hsplit:(c.toList.drop a.off).take ((m+1)*q.sz)=(c.toList.drop a.off).take (m*q.sz)++(c.toList.drop (a.off+m*q.sz)).take q.sz:=by
      rw [uU,Nat.one_mul,List.take_add,oO]
     rw [hsplit]
     exact wx hy2 (MH.2 hy)
   obtain⟨ys,hy1,hy2⟩:=key len (dY _)
   obtain⟨ab,ao,az⟩:=a
   simp only at hsp
   subst hsp
   exact⟨ys,some ⟨ab,ao,none⟩,cap,by rw [hy1],by omega,hmax,.inr ⟨ab,ao,c,E,fr,rfl,hb,by rw [hy1];exact hy2⟩⟩
 ·cases hx
theorem B5{q:Rp α}(h:P.underlying t=some (.slice e))(hc:P.cellsOf t=1)(h0:Nat.blt 0 q.sz=true)(hq:FY enc P W e q):FY enc P W t (ik q):=⟨hc,fun fuel cs x hx=>by
 have h0' :0<q.sz:=by simpa [vY] using h0
 cases fuel with
 |zero=>simp [DataW.trod]at hx
 |succ n=>
  unfold DataW.trod at hx
  rw [h]at hx
  split at hx
  all_goals try (injections;done)
  ·exact⟨[],none,0,rfl,dY _,mA _,.inl rfl⟩
  ·rename_i e' a len cap heq
   injection heq with e1
   injection e1 with e1
   subst e1
   exact PN h0' hq hx⟩
def WF(enc:TypeId×Value→H)(P:Program)(W:World){α:Type}(off:Nat)(l:List (TypeId×Nat))(r:Rp α):Prop:=
 ∀(fuel:Nat) (cs:List Value),cs.length=off+r.sz→(∀f∈l,∃x,DataW.trod enc P W 0 (fun _=>true) true fuel f.1 ((cs.drop f.2).take (P.cellsOf f.1))=some x)→ ∃y,r.rc (Gm W) (cs.drop off) y
theorem Bl{t:Nat}(h:FY enc P W t r):WF enc P W off [(t,off)] r:=fun fuel cs hl hx=>by
 obtain⟨x,hx⟩:=hx _ (List.mem_singleton_self _)
 simp only at hx
 rw [h.1,sC (by simp;omega)]at hx
 exact h.2 _ _ _ hx
theorem pU{p:Rp α}{t:Nat}{l:List (TypeId×Nat)}(h:FY enc P W t p)(ho:off' =off+p.sz)(hr:WF enc P W off' l q):WF enc P W off ((t,off)::l) (dI p q):=fun fuel cs hl hx=>by
 subst ho
 obtain⟨x,hx1⟩:=hx _ (lb ..)
 simp only at hx1
 rw [h.1]at hx1
 obtain⟨y,hy⟩:=h.2 _ _ _ hx1
 obtain⟨z,hz⟩:=hr fuel cs (by rw [hl];show off+(p.sz+q.sz)=_;omega) fun f hf=>hx f (lc _ hf)
 exact⟨(y,z),_,_,by rw [←oO];exact(ut _ _).symm,hy,hz⟩
theorem wh{l:List (TypeId×Nat)}{p:Rp α}{f:β→α}(ht:(P.underlying t).map (fun d=>match d with| .struct l=>(true,l.toList.map fun f=>(f.type,f.offset))|_=>(false,[]))=some (true,l))(hc:P.cellsOf t=p.sz)(hf: ∀y,∃x,f x=y)(hl:WF enc P W 0 l p):FY enc P W t (sa p f):=⟨hc,fun fuel cs x hx=>by
 obtain⟨fs,h1,h2⟩: ∃fs,P.underlying t=some (.struct fs)∧fs.toList.map (fun f=>(f.type,f.offset))=l:=by
  cases hu:P.underlying t with
  |none=>rw [hu]at ht;cases ht
  |some d=>
   rw [hu]at ht
   cases d<;>simp at ht
   exact⟨_,rfl,ht⟩
 cases fuel with
 |zero=>simp [DataW.trod]at hx
 |succ n=>
  unfold DataW.trod at hx
  rw [h1]at hx
  change (if cs.length=P.cellsOf t then(fs.toList.mapM fun f=>DataW.trod enc P W 0 (fun _=>true) true n f.type ((cs.drop f.offset).take (P.cellsOf f.type))).map (fun xs=>(DataW.agg (xs.map (·.1)),xs.flatMap (·.2)))else none)=some x at hx
  split at hx
  ·rename_i hlen
   cases hm:fs.toList.mapM (fun f=>DataW.trod enc P W 0 (fun _=>true) true n f.type ((cs.drop f.offset).take (P.cellsOf f.type)))with
   |none=>rw [hm]at hx;simp at hx
   |some r=>
    obtain⟨_,hm2⟩:=vE hm
    obtain⟨y,hy⟩:=hl n cs (by rw [hlen,hc];omega) (fun g hg=>by
     rw [←h2,vl]at hg
     obtain⟨f0,hf0,rfl⟩:=hg
     obtain⟨i,hi⟩:=List.getElem?_of_mem hf0
     obtain⟨z,_,hz⟩:=hm2 i f0 hi
     exact⟨z,hz⟩)
    obtain⟨x',hx'⟩:=hf y
    refine⟨x',?_⟩
    show p.rc _ cs (f x')
    rw [hx']
    simpa using hy
  ·cases hx⟩
theorem Kb(h:FY enc P W t r)(hag:r.agg=false){d:DataW H}(hv:DataW.Trod enc P W 0 (fun _=>true) true t v d ps)(hc:v.cells= #[v]): ∃y,(tD r y).p (Gm W) v:=by
 obtain⟨fuel,hx⟩:=hv
 rw [hc]at hx
 obtain⟨y,hy⟩:=h.2 _ _ _ hx
 exact⟨y,_,by unfold Rp.val;rw [hag];rfl,hy⟩

theorem Lq(ht:P.underlying t=some (.slice e))(hv:Value.okWide P W .any base t v):v.cells= #[v]:=by
 cases v<;>first|rfl|(simp [Value.okWide,ht,Cell.okWide,Cell.ok]at hv)
theorem Jd{W' :World}(h:gz p7 W S W' S'):Below W.heap.size W W' :=⟨h.os,h.tape,h.output,h.size,fun k hk=>h.heap k hk (fun h=>h)⟩
theorem zw(hl:laidOutB P=true){W W' :World}(hb:Below W.heap.size W W'){sp:Nat→Bool}: ∀{ts:List TypeId} {vs:List Value} {ds:List (DataW H)} {ps:List MemPlace},(∀t∈ts,P.readableRec t=true∧t<P.types.size)→
  DataW.TrodAll enc P W 0 (fun _=>true) true ts vs ds ps→(∀p∈ps,p.block<W.heap.size)→(∀p∈ps,sp p.block=true)→DataW.TrodAll enc P W' 0 sp true ts vs ds ps
 |[],[],[],_,_,h,_,_=>h
 |t::ts,v::vs,d::ds,_,hr,⟨p,q,h1,h2,e⟩,hlt,hsp=>by
  subst e
  have ht:=hr t (lb ..)
  exact⟨p,q,WideElems.Trod_stays hl ht.1 ht.2 h1 (fun x hx=>hb.same (hlt x (GF _ hx))) (fun x hx=>hsp x (GF _ hx)),
   zw hl hb (fun t ht=>hr t (lc _ ht)) h2 (fun x hx=>hlt x (List.mem_append_right _ hx)) (fun x hx=>hsp x (List.mem_append_right _ hx)),rfl⟩
theorem RR{f:Func}{s:ChangeSpec}{apart fresh handsOn again:Bool}{W' :World}{args:Array Value}{ds gs:List (DataW H)}{before:List MemPlace}{tb:TypeId}(hl:laidOutB P=true)(hr: ∀t∈f.params.toList,P.readableRec t=true∧t<P.types.size)(hvs:s.vars=[])(hres:f.resultTypes= #[tb])(htb:P.underlying tb=some .bool)(hW:DataW.Whole enc P f.params.toList s.vars apart W args.toList ds gs before)(hs:s.fn H (ds++gs)={results:=[.lit (.bool true)],args:=ds})(hb:Below W.heap.size W W'):
  s.post enc P f apart fresh handsOn again W args (.bool true) W' :=by
 have hW0:=hW
 have hlt:=hW.lt
 obtain⟨pa,pv,hA,hV,rfl,hz,hn⟩:=hW
 rw [hvs]at hV
 have hpv:pv=[]:=by
  cases gs with
  |nil=>exact hV
  |cons g gs=>exact hV.elim
 subst hpv
 have hlt' : ∀p∈pa,p.block<W.heap.size:=fun p hp=>hlt p (by simpa using hp)
 have hargs: ∀sp:Nat→Bool,(∀p∈pa,sp p.block=true)→DataW.TrodAll enc P W' 0 sp true f.params.toList args.toList ds pa:=fun sp hsp=>zw hl hb hr hA hlt' hsp
 have hresT: ∀(b:Nat) (sp:Nat→Bool) (hd:Bool),DataW.TrodAll enc P W' b sp hd f.resultTypes.toList ((Value.bool true).resultList f.resultTypes.size) [.lit (.bool true)] []:=fun b sp hd=>by
  rw [hres]
  exact⟨[],[],⟨1,by simp [DataW.trod,htb,Value.cells]⟩,rfl,rfl⟩
 have hvT: ∀sp:Nat→Bool,DataW.TrodVars enc P W' sp s.vars (s.fn H (ds++gs)).vars []:=fun sp=>by
  rw [hvs,hs];rfl
 have hargs' : ∀sp:Nat→Bool,(∀p∈pa,sp p.block=true)→DataW.TrodAll enc P W' 0 sp true f.params.toList args.toList (s.fn H (ds++gs)).args pa:=fun sp hsp=>by rw [hs];exact hargs sp hsp
 have hres' : ∀(b:Nat) (sp:Nat→Bool) (hd:Bool),DataW.TrodAll enc P W' b sp hd f.resultTypes.toList ((Value.bool true).resultList f.resultTypes.size) (s.fn H (ds++gs)).results []:=fun b sp hd=>by rw [hs];exact hresT b sp hd
 have hold: ∀p∈pa,(fun b=>decide (b<W.heap.size)) p.block=true:=fun p hp=>by simpa using hlt' p hp
 refine⟨ds,gs,pa++[],[],pa,[],hW0,hres' _ _ _,hargs' _ hold,hvT _,World.keptBut_mono (fun p hp=>⟨hp,?_⟩) (hb.frame _),fun _=>?_⟩
 ·right;simpa using hp
 ·refine⟨?_,_,_,([]++pa)++[],⟨[]++pa,[],trodAll_append (hargs' _ (fun _ _=>rfl)) (hres' _ _ _),hvT _,rfl,?_,?_⟩,?_⟩
  ·intro j t r h1 h2
   rw [hres]at h1 h2
   cases j with
   |zero=>
    simp [Value.resultList]at h1 h2
    subst h1 h2
    simp [Value.okWide,htb,Cell.okWide,Cell.ok]
   |succ j=>simp at h1
  ·intro b off hp
   have hp' :MemPlace.cell b off∈pa:=by simpa using hp
   have:=hlt' _ hp'
   rw [hb.frozen (p:=⟨b,off,none⟩) this]
   exact hz b off (by simpa using hp')
  ·intro ha
   have:=hn ha
   simpa using this
  ·intro p hp _
   simpa using hp
end

section
variable{H:Type}{enc:TypeId×Value→H}
def LZ{α:Type}(r:Rp α)(ok:α→Prop):Rp α where
 sz:=r.sz
 agg:=r.agg
 rc:=fun S cs x=>r.rc S cs x∧ok x
 mono:=fun h k=>⟨r.mono h k.1,k.2⟩
 len:=fun k=>r.len k.1
 one:=fun k=>r.one k.1
 sc:=r.sc
def Gp(k:IntKind)(n:Int):Prop:=k.min≤n∧n≤k.max
def inS(s:xc):Prop:=s.length≤maxLen
def Yx{α:Type}(ok:α→Prop)(xs:List α):Prop:=xs.length≤maxLen∧ ∀x∈xs,ok x
theorem Ek{k:IntKind}(h:P.underlying t=some (.int k))(hc:P.cellsOf t=1):FY enc P W t (LZ (rI k) (Gp k)):=⟨hc,fun fuel cs x hx=>by
 cases fuel with
 |zero=>simp [DataW.trod]at hx
 |succ n=>
  unfold DataW.trod at hx
  rw [h]at hx
  split at hx
  all_goals try (injections;done)
  ·rename_i k1 k2 m heq
   injection heq with e
   injection e with e
   subst e
   split at hx
   ·rename_i h2
    obtain⟨rfl,h3⟩:=h2
    simp only [Lit.wf,mz,lX]at h3
    exact⟨m,rfl,h3⟩
   ·cases hx⟩
theorem Rb(h:P.underlying t=some .string)(hc:P.cellsOf t=1):FY enc P W t (LZ rS inS):=⟨hc,fun fuel cs x hx=>by
 cases fuel with
 |zero=>simp [DataW.trod]at hx
 |succ n=>
  unfold DataW.trod at hx
  rw [h]at hx
  split at hx
  all_goals try (injections;done)
  ·rename_i s heq
   split at hx
   ·rename_i h2;exact⟨s.data.toList,rfl,(show s.data.toList.length≤maxLen from(show s.size=s.data.toList.length from rfl)▸h2)⟩
   ·cases hx⟩
def NF{α:Type}(r' r:Rp α)(ok:α→Prop):Prop:=r'.sz=r.sz∧r'.agg=r.agg∧ ∀S cs x,r'.rc S cs x→r.rc S cs x∧ok x
theorem wu:NF (LZ r ok) r ok:=⟨rfl,rfl,fun _ _ _ h=>h⟩
theorem N8{α:Type}{r' r:Rp α}{ok:α→Prop}(h:NF r' r ok){S:SH}: ∀{xs:List α} {cs:List Value},u9 r' S cs xs→u9 r S cs xs∧ ∀x∈xs,ok x
 |[],_,k=>⟨k,fun x hx=>by cases hx⟩
 |x::xs,_,⟨a,b,e,h1,h2⟩=>by
  obtain⟨g1,g2⟩:=h.2.2 _ _ _ h1
  obtain⟨g3,g4⟩:=N8 h h2
  exact⟨⟨a,b,e,g1,g3⟩,fun y hy=>by
   rcases gk.1 hy with rfl|hy
   ·exact g2
   ·exact g4 y hy⟩
theorem MG(h:NF r' r ok):NF (ik r') (ik r) (Yx ok):=⟨rfl,rfl,fun S cs xs ⟨a,cap,e,h1,h2,h3⟩=>by
 rcases h3 with h3|⟨b,off,c,E,fr,e1,e2,e3⟩
 ·exact⟨⟨a,cap,e,h1,h2,.inl h3⟩,by omega,fun x hx=>by rw [h3]at hx;cases hx⟩
 ·rw [h.1]at e3
  obtain⟨g1,g2⟩:=N8 h e3
  exact⟨⟨a,cap,e,h1,h2,.inr ⟨b,off,c,E,fr,e1,e2,g1⟩⟩,by omega,g2⟩⟩
theorem rW{p' p:Rp α}{q' :Rp β}{f:α→Prop}{g:β→Prop}(h:NF p' p f)(k:NF q' q g):NF (dI p' q') (dI p q) (fun x=>f x.1∧g x.2):=
 ⟨by show p'.sz+q'.sz=p.sz+q.sz;rw [h.1,k.1],rfl,fun S cs x ⟨a,b,e,h1,h2⟩=>⟨⟨a,b,e,(h.2.2 _ _ _ h1).1,(k.2.2 _ _ _ h2).1⟩,(h.2.2 _ _ _ h1).2,(k.2.2 _ _ _ h2).2⟩⟩
theorem DG{p' p:Rp α}{f:β→α}(h:NF p' p ok):NF (sa p' f) (sa p f) (fun x=>ok (f x)):=
 ⟨h.1,rfl,fun S cs x k=>h.2.2 _ _ _ k⟩
theorem Ws(h:FY enc P W t r')(hr:NF r' r ok)(hag:r.agg=false){d:DataW H}(hv:DataW.Trod enc P W 0 (fun _=>true) true t v d ps)(hc:v.cells= #[v]): ∃y,(tD r y).p (Gm W) v∧ok y:=by
 obtain⟨y,cs,e,hy⟩:=Kb h (by rw [hr.2.1];exact hag) hv hc
 obtain⟨g1,g2⟩:=hr.2.2 _ _ _ hy
 exact⟨y,⟨cs,by rw [e];unfold Rp.val;rw [hr.2.1],g1⟩,g2⟩
theorem Wt(h:FY enc P W t r')(hr:NF r' r ok)(hag:r.agg=true){d:DataW H}(hv:DataW.Trod enc P W 0 (fun _=>true) true t v d ps)(hc:v= .agg v.cells): ∃y,(tD r y).p (Gm W) v∧ok y:=by
 obtain⟨fuel,hx⟩:=hv
 obtain⟨y,hy⟩:=h.2 _ _ _ hx
 obtain⟨g1,g2⟩:=hr.2.2 _ _ _ hy
 exact⟨y,⟨_,by unfold Rp.val;rw [hag,bk rfl];exact hc,g1⟩,g2⟩
theorem Jc{l:Array Field}(ht:P.underlying t=some (.struct l))(hv:Value.okWide P W .any base t v):v= .agg v.cells:=by
 unfold Value.okWide at hv
 rw [ht]at hv
 obtain⟨cs,e,_⟩:=hv
 rw [e]
 rfl
end
end Go.Proofs.YtfhhakidodmdfaaGreatDoor

