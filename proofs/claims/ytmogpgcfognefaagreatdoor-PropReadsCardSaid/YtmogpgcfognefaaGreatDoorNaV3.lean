/- cG of this claim: W30, W31, W32, W33, W34, W35, W36, W37, W38, W39, W40, W48, W50, W51, W41, W42, W43, W21, W27. -/
import Derived.Test.YtmogpgcfognefaaGreatDoorNaV2
import Derived.Scope
import Derived.ChangeKeysEq
import Derived.Lib.Bytealg
import Derived.Maps.Range
import Derived.Laws.IdiomRangeMap
import Derived.Test.YtmogpgcfognefaaGreatDoorNaV1
import Derived.Laws.BytesString
import Derived.Below
import Derived.ProofKit
set_option linter.all false
namespace Go.Proofs.YtmogpgcfognefaaGreatDoor
open Go

def xj(tmps:Array Value):ResultVar→Sem Value
 | .tmp t=>pure (tmps.getD t undef)
 | .cell a t=>do loadVar t (←asAddr (tmps.getD a undef))
def KR(P:Program)(N:Fr)(G:jK)(rv:ResultVar)(t:Ty):Prop:= ∀a w S,ga w S→cG N S a G→ ∃v,(xj a.tmps rv).run P w= .ok v w∧t.p S v
variable{G:jK}{N:Fr}{P:Program}{S:SH}{T U:TypeId}{a:Act}{agg:Bool}{α:Type}{b bytes:Nat}{c:Code}{k:IntKind}{off:Nat}{r:Rp α}{sz:Nat}{w:World}{x:Operand}{z:List Value}
theorem nz{k:Nat}{x:α}(ti:TI P T sz bytes agg z)(hsz:r.sz=sz)(hag:r.agg=agg)(hk:look G k=some (bz r x)):KR P N G (.cell k T) (tD r x):=fun a w S hs hf=>by
 obtain⟨b,off,c,U,fr,h1,h2,h3⟩:=hf.at_ k _ hk
 obtain⟨c',h4,h5⟩:=hs.part h2 (r.len h3)
 rw [←h5]at h3
 have hl:=jw ti h4 hsz hag h3
 have h1' :a.tmps[k]?.getD undef=Value.pointer (some ⟨b,off,none⟩):=by simpa [Bn] using h1
 exact⟨_,by simp [xj,h1',asAddr,hl],_,rfl,h3⟩
def H2(P:Program)(N:Fr)(G:jK):List ResultVar→List Ty→Prop
 |[],[]=>True
 |rv::rvs,t::ts=>KR P N G rv t∧H2 P N G rvs ts
 |_,_=>False
variable{ok:α→Prop}{t:TypeId}{v:Value}
theorem H2.run(hs:ga w S)(hf:cG N S a G): ∀{rvs:List ResultVar} {ts:List Ty},H2 P N G rvs ts→ ∃vs,(rvs.mapM (xj a.tmps)).run P w= .ok vs w∧qp S ts vs∧vs.length=rvs.length
 |[],[],_=>⟨[],rfl,trivial,rfl⟩
 |rv::rvs,t::ts,⟨h1,h2⟩=>by
  obtain⟨v,g1,g2⟩:=h1 a w S hs hf
  obtain⟨vs,k1,k2,k3⟩:=H2.run hs hf h2
  exact⟨v::vs,by simp [List.mapM_cons,g1,k1,Result.andThen],⟨g2,k2⟩,by simp [k3]⟩
variable{B:Nat→Prop}{O:List OE}{e:TypeId}
theorem Bg{N:Nat}{w0:World}{S0:SH}{fn:Func}{rvs:List ResultVar}{ts:List Ty}(hr:fn.results=rvs.toArray)(h1:Nat.beq rvs.length 1=false)(h:H2 P ⟨N,[]⟩ G rvs ts):
  AT ⟨P,⟨N,[]⟩,B,w0,S0,none⟩ (bodyPost P fn (A1 ⟨P,⟨N,[]⟩,B,w0,S0,none⟩ (tT ts))) .ret O G:=fun a w S st=>by
 obtain⟨vs,k1,k2,k3⟩:=h.run st.sat st.facts
 have hne: ¬vs.length=1:=by rw [k3];intro e;rw [e]at h1;cases h1
 refine⟨st.facts.defers,.tuple vs.toArray,?_,_,S,rfl,st.ext,st.sat,vs,rfl,k2⟩
 have e1:(fn.results.mapM (xj a.tmps)).run P w= .ok vs.toArray w:=by
  rw [hr,List.mapM_toArray,Sem.run_map,k1]
  rfl
 have e3:results fn a.tmps=((fn.results.mapM (xj a.tmps))>>=fun vs=>pure (if h:vs.size=1 then vs[0]else .tuple vs)):=rfl
 rw [e3,nK,e1]
 simp [Result.andThen,hne]

variable{cap:Nat}{cs:List Value}{p:Operand}{xs:List α}
theorem G9(h:(tD (dE r) xs).p S v):(dE r).rc S [v] xs:=by
 obtain⟨cs,e,h2⟩:=h
 obtain⟨a,cap,e2,h3⟩:=h2
 subst e2
 rw [e]
 exact⟨a,cap,rfl,h3⟩
variable{E:En}{S' :SH}{V:TypeId}{after:Array Edge}{base:Nat}{dst:Option Tmp}{β:Type}{g:Option (Nat×Bool)}{n:Nat}{o:Oper}{pos:String}{q:Rp β}{y:α}
section
variable{ty:TypeId}
theorem dw{r:Rp β}{get:β→Value}{x:β}{l:Option Nat}(ti:TI E.P U 1 bytes false z)(hget:jj r off rV get)(hm:bx r T b x∈O)(hv:get x=ai l cap n)(hp:ay E.N G p (tV (aD b off))):
  bU E O G ⟨dst,.load U p,ty,pos,after,g⟩ (tV (ai l cap n)):=(aT (q:=rV) ti rfl rfl hget hm hp).imp fun _ _ h=>by rw [←hv];exact(tk.1 h).1
theorem FY{q:Rp α}{r:Rp β}{get:β→Value}{x:β}{l:Option Nat}(ti:TI E.P U 1 bytes false z)(hget:jj r off rV get)(hm:bx r T b x∈O)(hm2:gX q V l cap xs∈O)(hv:get x=ai l cap xs.length)(hp:ay E.N G p (tV (aD b off))):
  bU E O G ⟨dst,.load U p,ty,pos,after,g⟩ (tO q l cap xs):=fun a w S hs ho hf=>
 kr (fun _ _ ⟨v,S',h1,h2,h3,h4⟩=>⟨v,S',h1,h2,h3,h4,by
  have h5:v=ai l cap xs.length:=h4
  rw [h5]
  exact kP (((ho.ext0 h2).mem _ hm2).1)⟩) (dw (g:=g) (ty:=ty) (pos:=pos) (after:=after) (dst:=dst) ti hget hm hv hp a w S hs ho hf)
theorem bB{i o:Nat}(hf:bQ E.P T i=some (off,sz))(h0:Nat.beq sz 0=false)(hp:ay E.N G p (tV (aD b o)))(he:o+off=n):bU E O G ⟨dst,.fieldAddr T p i,ty,pos,after,g⟩ (tV (aD b n)):=by
 subst he
 exact yS hf h0 hp
theorem oE{q:Rp α}{r:Rp β}{x:β}(ti:TI E.P U sz bytes agg z)(hsz:q.sz=sz)(hag:q.agg=agg)(hag2:r.agg=agg)(hsz2:r.sz=sz)(hm:bx r T b x∈O)(hc: ∀w S cs,dd E.base E.B w S O→r.rc S cs x→q.rc S cs y)(hp:ay E.N G p (tV (aD b 0))):
  bU E O G ⟨dst,.load U p,ty,pos,after,g⟩ (tD q y):= .of_pure fun a w S _ ho hf=>by
 have h1:a.eval p=aD b 0:=hp S a hf
 obtain⟨⟨_,cur,h5,h6⟩,_⟩:=ho.mem _ hm
 have h7:=hc w S _ ho h6
 have hl:=q.len h7
 have h8:q.rc S ((cur.toList.drop 0).take q.sz) y:=by rw [qJ,sx (by omega)];exact h7
 exact⟨_,by simp [execOp,h1,aD,Instr.loadAt,Instr.sureAddr,jw ti h5 hsz hag h8],_,rfl,h8⟩
theorem iE{q:Rp α}{l:Option Nat}(ho:dd base B w S O)(hm:gX q V l cap xs∈O):(dE q).rc S [ai l cap xs.length] xs:=G9 (kP (ho.mem _ hm).1)
end
def mU{α β γ:Type}(r:Rp α)(r' :Rp γ)(off:Nat)(q:Rp β)(x:α)(y:β)(x' :γ):Prop:= ∀S cs ds,r.rc S cs x→q.rc S ds y→r'.rc S (cs.take off++ds++cs.drop (off+q.sz)) x'
variable{set:α→β→α}
theorem Li{x:α}{y:β}(h:ft r off q set):mU r r off q x y (set x y):=fun S cs ds h1 h2=>h S cs x ds y h1 h2
variable{γ:Type}{r' :Rp γ}
theorem kl{x:α}{y:γ}(hs:r.sz=r'.sz):mU r r' 0 r' x y y:=fun S cs ds h1 h2=>by
 have hl:=r.len h1
 rw [List.take_zero,pQ,v7 (by omega),Aa]
 exact h2
variable{u:Rp γ}{x1:OE}
theorem Ei{α' :Type}{p:Rp α}{p' :Rp α'}{x:α×β}{y:γ}{x1:α'}(h:mU p p' 0 u x.1 y x1)(hu:Nat.ble u.sz p.sz=true):mU (bN p q) (bN p' q) 0 u x y (x1,x.2):=fun S cs ds ⟨a,b,e,h1,h2⟩ hd=>by
 have hl:=p.len h1
 have hu' :=mq hu
 have h3:=h S a ds h1 hd
 subst e
 rw [List.take_zero,pQ,mu,GP (by omega),←qC]
 rw [List.take_zero,pQ,mu]at h3
 exact⟨_,_,rfl,h3,h2⟩
theorem dQ{β' :Type}{p:Rp α}{q' :Rp β'}{x:α×β}{y:γ}{off' :Nat}{x2:β'}(h:mU q q' off u x.2 y x2)(ho:off' =p.sz+off):mU (bN p q) (bN p q') off' u x y (x.1,x2):=fun S cs ds ⟨a,b,e,h1,h2⟩ hd=>by
 have hl:=p.len h1
 have h3:=h S b ds h2 hd
 subst e ho
 refine⟨a,_,?_,h1,h3⟩
 have e1:p.sz+off-a.length=off:=by omega
 have e2:p.sz+off+u.sz-a.length=off+u.sz:=by omega
 rw [List.take_append,List.drop_append,sx (by omega),v7 (by omega),e1,e2]
 simp
variable{f:β→α}{x' :γ}
theorem tp{α' β' :Type}{p:Rp α}{p' :Rp α'}{f' :β' →α'}{x:β}{x' :β'}{y:γ}{z:α'}(h:mU p p' off u (f x) y z)(e:f' x' =z):mU (jx p f) (jx p' f') off u x y x' :=fun S cs ds h1 h2=>by
 show p'.rc S _ (f' x')
 rw [e]
 exact h S cs ds h1 h2
variable{Q:Exit→Act→World→Prop}{ops:Array Oper}{rest:List Oper}{w' :World}
section
variable{e:Exit}{ty:TypeId}
theorem dV{x:α}{y:β}{v:Operand}(ti:TI E.P U sz bytes agg z)(hsz:q.sz=sz)(hset:mU r r' off q x y x')(hoff:Nat.ble (off+q.sz) r.sz=true)(hp:ay E.N G p (tV (aD b off)))(hv:ay E.N G v (tD q y))(k:RG E ops Q rest (bx r' T b x' ::O) G):RG E ops Q (⟨none,.store U p v,ty,pos,after,none⟩::rest) (bx r T b x::O) G:= .of rfl fun a w S st=>by
 have h1:a.eval p=aD b off:=hp S a st.facts
 obtain⟨ds,h2,h3⟩:=hv S a st.facts
 obtain⟨⟨hno,cur,h5,h6⟩,_⟩:=st.own.1
 have hl:=r.len h6
 have hoff' :=mq hoff
 obtain⟨w',hr,e1,e2,e3,e4,e5,e6⟩:=gP ti hsz h3 h5 (off:=off) (by simp at hl;omega)
 have hrun:(execOp a.eval ⟨none,.store U p v,ty,pos,after,none⟩).run E.P w= .ok .skip w' :=by
  simp [execOp,h1,h2,Instr.storeAt,aD,Instr.sureAddr,hr]
 refine⟨fun c h=>(by cases h),?_⟩
 rw [hrun]
 obtain⟨g1,g2,g3⟩:=kq (O:=O) st.sat (bx r T b x) (bx r' T b x') st.own (fun _=>ol) (fun _=>ol) ⟨e1,e2,e3,e4.1,e4.2⟩ e6 ⟨hno,_,e5,by simpa using hset S _ _ h6 h3⟩ hno
 exact k _ _ S ⟨st.ext.step g1 (fun c hc=>st.own.1.2 c hc),g2,g3,st.facts⟩
theorem St.cvB{x:α}(h: ∀w S cs,dd E.base E.B w S O→r.rc S cs x→r'.rc S cs x')(st:St E (bx r T b x::O) G a w S):St E (bx r' T b x' ::O) G a w S:=
 st.own_map fun⟨⟨⟨h1,c,h2,h3⟩,h4⟩,h5,h6⟩=>⟨⟨⟨h1,c,h2,h _ _ _ h6 h3⟩,h4⟩,h5,h6⟩
theorem pq{x:α}(h: ∀w S cs,dd E.base E.B w S O→r.rc S cs x→r'.rc S cs x')(k:AT E Q e (bx r' T b x' ::O) G):AT E Q e (bx r T b x::O) G:=fun a w S st=>k a w S (st.cvB h)
end

section
variable{b:Frame}{k:List Item}{cs:List Frame}{F:Fence}
theorem l0:step P (lone (b.atR a (.code (.scope c)::k)) cs w)= .next (lone (b.atR a (.code c:: .inScope c::k)) cs w):=
 step_lone_go (by simp [stepG,stepG.exec,Frame.atR])
theorem yJ:step P (lone (b.atR a (.inScope c::k)) cs w)= .next (lone (b.atR a k) cs w):=
 step_lone_go (by simp [stepG,stepG.exec,Frame.atR])
theorem CX(h:c.wpIn F n P (Exit.noGoto Q) a w):(Code.scope c).wpIn F n P Q a w:=by
 intro b k cs hro hb hr
 have h0:(lone (b.atR a (.code (.scope c)::k)) cs w).fenced P F:=fenced_calm hb hr rfl
 obtain⟨e,a₁,w₁,hq,harr⟩:=h b (.inScope c::k) cs hro hb hr
 cases e with
 |normal=>exact⟨.normal,a₁,w₁,hq,.head h0 l0 (StepsIn.trans harr (.one (fenced_calm hb hr rfl) yJ))⟩
 |exit id=>
  have hx:exitTo id (.inScope c::k)=exitTo id k:=by simp [exitTo]
  exact⟨.exit id,a₁,w₁,hq,fun k' hk=> .head h0 l0 (harr.1 k' (by rw [hx];exact hk)),
   fun hr' hk=>let⟨k₁,h1,h2⟩:=harr.2 hr' (by rw [hx];exact hk);⟨k₁,h1,.head h0 l0 h2⟩⟩
 |goto l=>exact hq.elim
 |ret=>exact⟨_,a₁,w₁,hq,.of_steps (.one h0 l0) harr⟩
 |panic ch=>exact⟨_,a₁,w₁,hq,.of_steps (.one h0 l0) harr⟩
 |outgrown=>exact⟨_,a₁,w₁,hq,.of_steps (.one h0 l0) harr⟩
end
section
theorem yu(h:CG E (Exit.noGoto Q) c O G):CG E Q (.scope c) O G:=fun a w S st=>CX (h a w S st)
theorem yw{l:Nat}(h:AT E Q .normal O G):CG E Q (.label l) O G:=fun a w S st=>wpIn_label (h a w S st)
theorem mo(h:AT E Q .ret O G):AT E (Exit.noGoto Q) .ret O G:=h
end

variable{κ:Type}{m:List (κ×β)}
theorem AO [Inhabited α]{m i:Nat}(h:i<m):jj (lR r m) (i*r.sz) r (fun x=>(x[i]?).getD default):=fun S cs x ⟨h1,h2⟩=>by
 have hi:x[i]? =some ((x[i]?).getD default):=by rw [nT (by omega)];rfl
 exact wq h2 hi
variable{d:Nat}{j:Int}
theorem J1 [DecidableEq α] [Inhabited α]{m t e:Nat}(ht:P.underlying t=some (.array m e))(ti:TI P e sz bytes agg z)(hsz:r.sz=sz)(hag:r.agg=agg)(he:ln P e r n):ln P t (lR r m) (n+1):=fun S cs ds x y d w hx hy=>by
 obtain⟨i,zv,hi,hs,_⟩:=ti.get
 have hcell:P.cellsOf e=r.sz:=by unfold Program.cellsOf;rw [hi];simp [hs,hsz]
 have e1:(lR r m).val cs= .agg cs.toArray:=rfl
 have e2:(lR r m).val ds= .agg ds.toArray:=rfl
 rw [e1,e2,show d+(n+1)=(d+n)+1 from rfl,run_equalIn_array w (d+n) cs.toArray ds.toArray ht hi,List.range_eq_range',hcell]
 have key: ∀k j,j+k=m→(Op.eqItems (d+n) e r.sz cs.toArray ds.toArray (List.range' j k)).run P w= .ok (decide (x.drop j=y.drop j)) w:=by
  intro k
  induction k with
  |zero=>
   intro j hj
   rw [v7 (by have:=hx.1;omega),v7 (by have:=hy.1;omega)]
   rfl
  |succ k ih=>
   intro j hj
   have hjx:j<x.length:=by have:=hx.1;omega
   have hjy:j<y.length:=by have:=hy.1;omega
   have h1:=n4 ti hsz hag (AO (r:=r) (m:=m) (i:=j) (by omega)) hx w
   have h2:=n4 ti hsz hag (AO (r:=r) (m:=m) (i:=j) (by omega)) hy w
   have h3:=he S _ _ _ _ d w (AO (r:=r) (m:=m) (i:=j) (by omega) S cs x hx) (AO (r:=r) (m:=m) (i:=j) (by omega) S ds y hy)
   rw [List.range'_succ]
   unfold Op.eqItems
   simp only [nK,h1,h2,h3,nU]
   have ex:x.drop j=(x[j]?).getD default::x.drop (j+1):=by rw [nT hjx];exact wK hjx
   have ey:y.drop j=(y[j]?).getD default::y.drop (j+1):=by rw [nT hjy];exact wK hjy
   rw [ex,ey]
   by_cases hq:(x[j]?).getD default=(y[j]?).getD default
   ·simp only [hq,decide_true,su,uC,pt]
    rw [ih (j+1) (by omega)]
    congr 1
    simp
   ·simp [hq]
 have:=key m 0 (by omega)
 simpa using this
variable{ys:List α}
section
variable{ty:TypeId}
theorem mg{xs:List Operand}{m sz' bytes' :Nat}{agg' :Bool}{z' :List Value}(ht:E.P.underlying t=some (.array m T))(ti:TI E.P T sz bytes agg z)(hsz:r.sz=sz)(tj:TI E.P t sz' bytes' agg' z')(hz:z'.length=m*r.sz)(hm:m=ys.length)(hx:iB E.N G xs (ys.map (tD r))):bU E O G ⟨dst,.build t (sn 0 xs).toArray,ty,pos,after,g⟩ (tD (lR r m) ys):=
 .of_pure fun a w S _ _ hF=>by
  obtain⟨zv,hzr,hzc⟩:=tj.zero w
  obtain⟨cs,hc,hfill⟩:=xR ys (xs.map a.eval) 0 [] z' (hx.tys hF) (by simp) (by rw [hz,hm])
  subst hsz
  have hparts:((sn 0 xs).toArray.map fun(i,x)=>(i,a.eval x)).toList=vJ 0 (xs.map a.eval):=by simpa using u6 a.eval 0 xs
  rw [pQ,pQ]at hfill
  refine⟨.agg cs.toArray,?_,cs,rfl,hm.symm,hc⟩
  simp only [execOp,Instr.build,nK,hzr,nU,mV ht,ti.sizeOf,hzc,hparts,hfill]
  simp
end

def qS(N:Nat):List Nat→List Oper→Bool
 |_,[]=>true
 |seen,o::rest=>match o.dst with
  |some d=>Nat.blt d N&& !(seen.any (Nat.beq d))&&qS N (d::seen) rest
  |none=>qS N seen rest
theorem vn{N:Nat}(l:List Oper): ∀(seen:List Nat),qS N seen l=true→
  (∀o:Oper,o∈l→ ∀d,o.dst=some d→d<N∧d∉seen)∧ ∀(i j:Nat) (o p:Oper) (d:Nat),l[i]? =some o→l[j]? =some p→o.dst=some d→p.dst=some d→i=j:=by
 induction l with
 |nil=>exact fun _ _=>⟨fun _ h=>(by cases h),fun _ _ _ _ _ h=>(by simp at h)⟩
 |cons o l ih=>
  intro seen h
  unfold qS at h
  cases hd:o.dst with
  |none=>
   rw [hd]at h
   obtain⟨h1,h2⟩:=ih seen h
   refine⟨fun q hq d hqd=>?_,fun i j p q d hi hj hp hq=>?_⟩
   ·rcases ia.1 hq with rfl|hq
    ·rw [hd]at hqd;cases hqd
    ·exact h1 q hq d hqd
   ·cases i with
    |zero=>simp at hi;subst hi;rw [hd]at hp;cases hp
    |succ i=>
     cases j with
     |zero=>simp at hj;subst hj;rw [hd]at hq;cases hq
     |succ j=>rw [h2 i j p q d (by simpa using hi) (by simpa using hj) hp hq]
  |some d0=>
   rw [hd]at h
   simp only [iP,pu,wJ]at h
   obtain⟨⟨g1,g2⟩,g3⟩:=h
   obtain⟨h1,h2⟩:=ih (d0::seen) g3
   have hns:d0∉seen:=fun hm=>by
    have:seen.any (Nat.beq d0)=true:=wI.2 ⟨d0,hm,Nat.beq_refl d0⟩
    rw [this]at g2;cases g2
   refine⟨fun q hq d hqd=>?_,fun i j p q d hi hj hp hq=>?_⟩
   ·rcases ia.1 hq with rfl|hq
    ·rw [hd]at hqd;cases hqd;exact⟨g1,hns⟩
    ·obtain⟨k1,k2⟩:=h1 q hq d hqd
     exact⟨k1,fun hm=>k2 (ly _ hm)⟩
   ·cases i with
    |zero=>
     cases j with
     |zero=>rfl
     |succ j=>
      simp at hi;subst hi
      rw [hd]at hp;cases hp
      exact absurd (lI ..) (h1 q (nV (by simpa using hj)) d0 hq).2
    |succ i=>
     cases j with
     |zero=>
      simp at hj;subst hj
      rw [hd]at hq;cases hq
      exact absurd (lI ..) (h1 p (nV (by simpa using hi)) d0 hp).2
     |succ j=>rw [h2 i j p q d (by simpa using hi) (by simpa using hj) hp hq]
def BM:List Oper→List Ty→jK→jK
 |o::l,t::ts,G=>match o.dst with
  |some d=>(d,t)::BM l ts G
  |none=>BM l ts G
 |_,_,G=>G
theorem zr(l:List Oper): ∀(ts:List Ty) (k:Nat) (t:Ty),ts.length=l.length→look (BM l ts G) k=some t→
  (∃(j:Nat) (o:Oper),l[j]? =some o∧o.dst=some k∧ts[j]? =some t)∨(look G k=some t∧ ∀o:Oper,o∈l→o.dst≠some k):=by
 induction l with
 |nil=>
  intro ts k t hl h
  have:ts=[]:=sB (by simpa using hl)
  subst this
  exact .inr ⟨h,fun _ h=>(by cases h)⟩
 |cons o l ih=>
  intro ts k t hl h
  cases ts with
  |nil=>simp at hl
  |cons u ts=>
   unfold BM at h
   have hl' :ts.length=l.length:=by simpa using hl
   have lift:((∃(j:Nat) (p:Oper),l[j]? =some p∧p.dst=some k∧ts[j]? =some t)∨(look G k=some t∧ ∀p:Oper,p∈l→p.dst≠some k))→o.dst≠some k→
     (∃(j:Nat) (p:Oper),(o::l)[j]? =some p∧p.dst=some k∧(u::ts)[j]? =some t)∨(look G k=some t∧ ∀p:Oper,p∈o::l→p.dst≠some k):=by
    rintro(⟨j,p,h1,h2,h3⟩|⟨h1,h2⟩) hne
    ·exact .inl ⟨j+1,p,by simpa using h1,h2,by simpa using h3⟩
    ·exact .inr ⟨h1,fun p hp=>(ia.1 hp).elim (fun e=>by subst e;exact hne) (h2 p)⟩
   cases hd:o.dst with
   |none=>
    rw [hd]at h
    exact lift (ih ts k t hl' h) (by rw [hd];exact fun e=>by cases e)
   |some d=>
    rw [hd]at h
    simp only at h
    unfold look at h
    by_cases hb:Nat.beq d k=true
    ·rw [hb]at h
     have:=mr hb
     subst this
     have e:u=t:=by simpa using h
     subst e
     exact .inl ⟨0,o,rfl,hd,rfl⟩
    ·rw [s7]at hb
     rw [hb]at h
     refine lift (ih ts k t hl' h) ?_
     rw [hd]
     intro e
     have:d=k:=lc e
     subst this
     simp at hb
abbrev TS:=List Nat×(List OI→Ty)
def TS.at(p:TS)(σ:Nat→OI):Ty:=p.2 (p.1.map σ)
def tc(t:Ty):TS:=([],fun _=>t)
def GO(Ss:List ((Nat→OI)→List OE))(c:Nat)(σ:Nat→OI):List OE:=match Ss[c]? with|some f=>f σ|none=>[]
structure NS where
 slot:Nat
 ty:(Nat→OI)→Ty
 src:Option Nat
def NS.at(n:NS)(σ:Nat→OI):Nd:=⟨n.slot,n.ty σ,n.src⟩
def Kn(G:jK)(ts:List TS)(n:NS):Prop:=
 match n.src with
 |some j=> ∀σ,(ts[j]?).map (fun p=>p.at σ)=some (n.ty σ)
 |none=> ∀σ,look G n.slot=some (n.ty σ)
def qz(G:jK)(ts:List TS):List NS→Prop
 |[]=>True
 |n::l=>Kn G ts n∧qz G ts l
theorem qz.mem{ts:List TS}: ∀{l:List NS},qz G ts l→ ∀n∈l,Kn G ts n
 |_::_,⟨h,_⟩,_,.head _=>h
 |_::_,⟨_,h⟩,_,.tail _ hm=>qz.mem h _ hm
def qv(l:List NS)(σ:Nat→OI):jK:=g9 (l.map (·.at σ))
def Ih(ts:List TS)(σ:Nat→OI):List Ty:=ts.map fun p=>p.at σ
def Gr(L:List Oper)(es:List Bool)(i:Nat)(p:TS):Bool:=p.1.all fun k=>(es[k]?).getD false&&(Nat.beq k i||kG L L.length i k)
def Ld(L:List Oper)(es:List Bool)(i lo hi:Nat):Bool:=
 Nat.ble lo (eG es es.length)&&(List.range es.length).all fun k=> !((es[k]?).getD false)||((Nat.ble lo (eG es k)||kG L L.length i k)&&(Nat.blt (eG es k) hi||kG L L.length k i))
def DS(E:En)(G:jK)(L:List Oper)(ts:List TS)(Ss:List ((Nat→OI)→List OE))(es0:List Bool):Nat→Nat→List Oper→List Bool→Prop
 |_,_,[],_=>True
 |i,c,o::rest,false::es=>(∃(needs:List NS) (t:TS) (lo hi:Nat),ts[i]? =some t∧qz G ts needs∧(needs.all fun n=>mA L o i (n.at fun _=>rx))=true∧dG i o=true∧Gr L es0 i t=true∧Ld L es0 i lo hi=true∧o.dst.isSome=true∧
   ∀c σ,lo≤c→c≤hi→bV E (GO Ss c σ) L.toArray (qv needs σ) o (t.at σ))∧DS E G L ts Ss es0 (i+1) c rest es
 |i,c,o::rest,true::es=>(∃(needs:List NS) (t:TS),ts[i]? =some t∧qz G ts needs∧(needs.all fun n=>mA L o i (n.at fun _=>rx))=true∧dG i o=true∧Gr L es0 i t=true∧
   ∀σ,nH E L.toArray (GO Ss c σ) (qv needs σ) o (fun x=>GO Ss (c+1) (CN σ i x)) (fun x=>t.at (CN σ i x)))∧DS E G L ts Ss es0 (i+1) (c+1) rest es
 |_,_,_::_,[]=>False
variable{L:List Oper}{Ss:List ((Nat→OI)→List OE)}{es:List Bool}{lo:Int}{σ:Nat→OI}
theorem DS.get{ts:List TS}{es0:List Bool}: ∀(r:List Oper) (es:List Bool) (k c:Nat),DS E G L ts Ss es0 k c r es→ ∀(j:Nat) (o:Oper),r[j]? =some o→
    ∃e,es[j]? =some e∧ ∃(needs:List NS) (t:TS),ts[k+j]? =some t∧qz G ts needs∧(needs.all fun n=>mA L o (k+j) (n.at fun _=>rx))=true∧dG (k+j) o=true∧Gr L es0 (k+j) t=true∧
      (match e with
       |false=>o.dst.isSome=true∧ ∃lo hi,Ld L es0 (k+j) lo hi=true∧ ∀c σ,lo≤c→c≤hi→bV E (GO Ss c σ) L.toArray (qv needs σ) o (t.at σ)
       |true=> ∀σ,nH E L.toArray (GO Ss (c+eG es j) σ) (qv needs σ) o (fun x=>GO Ss (c+eG es j+1) (CN σ (k+j) x)) (fun x=>t.at (CN σ (k+j) x))):=by
  intro r
  induction r with
  |nil=>intro es k c _ j o h;simp at h
  |cons p r ih=>
    intro es k c h j o ho
    cases es with
    |nil=>exact h.elim
    |cons e es=>
      cases e with
      |false=>
        obtain⟨⟨needs,t,lo,hi,g1,g2,g3,g4,g5,g6,g7,g8⟩,h2⟩:=h
        cases j with
        |zero=>
          simp at ho;subst ho
          exact⟨false,rfl,needs,t,g1,g2,g3,g4,g5,g7,lo,hi,g6,g8⟩
        |succ j=>
          obtain⟨e',g1,g2⟩:=ih es (k+1) _ h2 j o (by simpa using ho)
          refine⟨e',by simpa using g1,?_⟩
          rw [show k+1+j=k+(j+1)from by omega]at g2
          have e1:c+eG (false::es) (j+1)=c+eG es j:=by simp [eG]
          rw [e1];exact g2
      |true=>
        obtain⟨h1,h2⟩:=h
        cases j with
        |zero=>
          simp at ho;subst ho
          exact⟨true,rfl,h1⟩
        |succ j=>
          obtain⟨e',g1,g2⟩:=ih es (k+1) _ h2 j o (by simpa using ho)
          refine⟨e',by simpa using g1,?_⟩
          rw [show k+1+j=k+(j+1)from by omega]at g2
          have e1:c+eG (true::es) (j+1)=c+1+eG es j:=by simp [eG];omega
          rw [e1];exact g2
structure KV(E:En)(G:jK)(l:List Oper)(ts:List TS)(Ss:List ((Nat→OI)→List OE))(es:List Bool)(done:Array Bool)(a:Act)(w:World)(S:SH)(σ:Nat→OI)(c:Nat):Prop where
 ext:eS E.B E.w0 E.S0 w S
 sat:ga w S
 own:dd E.base E.B w S (GO Ss c σ)
 size:a.tmps.size=E.N.n
 defers:a.defers=E.N.ds
 dsz:done.size=l.length
 down: ∀j o,l[j]? =some o→done.getD j false=true→ ∀e∈o.after,Region.binds .any e=true→done.getD e.on false=true
 old: ∀k t,look G k=some t→(∀j o,l[j]? =some o→done.getD j false=true→o.dst≠some k)→t.p S (a.tmps.getD k undef)
 new: ∀j o d p,l[j]? =some o→done.getD j false=true→o.dst=some d→ts[j]? =some p→(p.at σ).p S (a.tmps.getD d undef)
 deps: ∀j p,done.getD j false=true→ts[j]? =some p→ ∀k∈p.1,done.getD k false=true
 chain: ∀k,es[k]? =some true→(done.getD k false=true↔eG es k<c)
variable{done:Array Bool}
section
variable{ts:List TS}
theorem KV.need{c:Nat}(h:KV E G L ts Ss es done a w S σ c){i:Nat}(hi:L[i]? =some o)(hun:done.getD i true=false)(hwait: ∀e∈o.after,Region.binds .any e=true→done.getD e.on false=true){needs:List NS}(h1:qz G ts needs)(h2:(needs.all fun n=>mA L o i (n.at fun _=>rx))=true):cG E.N S a (qv needs σ):=by
 have hlt:i<done.size:=by rw [h.dsz];exact(lJ.1 hi).1
 have hun' :done.getD i false=false:=by
  simp [hlt]at hun ⊢;exact hun
 refine⟨h.size,h.defers,?_⟩
 have key: ∀n∈needs,(n.ty σ).p S (a.tmps.getD n.slot undef):=by
  intro n hn
  have hs:=lz.1 h2 n hn
  have ho:=h1.mem n hn
  unfold mA NS.at at hs
  unfold Kn at ho
  cases hsrc:n.src with
  |some j=>
   rw [hsrc]at hs ho
   simp only [iP]at hs
   obtain⟨hs1,hs2⟩:=hs
   cases hj:L[j]? with
   |none=>rw [hj]at hs1;cases hs1
   |some p=>
    rw [hj]at hs1
    cases hd:p.dst with
    |none=>simp only [hd]at hs1;cases hs1
    |some d=>
     simp only [hd]at hs1
     have hd' :=mr hs1
     subst hd'
     have hdone:done.getD j false=true:=by
      unfold vj at hs2
      obtain⟨e,he0,hb⟩:=wI.1 hs2
      have he:e∈o.after:=by simpa using he0
      simp only [iP]at hb
      have:=hwait e he hb.2
      rwa [mr hb.1]at this
     have hm:=ho σ
     cases hf:ts[j]? with
     |none=>rw [hf]at hm;simp at hm
     |some f=>
      rw [hf]at hm
      have e:f.at σ=n.ty σ:=by simpa using hm
      rw [←e]
      exact h.new j p n.slot f hj hdone hd hf
  |none=>
   rw [hsrc]at hs ho
   refine h.old _ _ (ho σ) fun j p hj hdone hd=>?_
   have:=lz.1 hs p (nV hj)
   simp only [hd,Nat.beq_refl,su,sv]at this
   unfold vj at this
   obtain⟨e,he0,hb⟩:=wI.1 this
   have he:e∈p.after:=by simpa using he0
   simp only [iP]at hb
   have h3:=h.down j p hj hdone e he hb.2
   rw [mr hb.1]at h3
   rw [h3]at hun'
   cases hun'
 clear h1 h2
 intro k t hk
 unfold qv at hk
 induction needs with
 |nil=>simp [g9,look]at hk
 |cons n needs ih=>
  simp only [List.map_cons]at hk
  unfold g9 look at hk
  by_cases hb:Nat.beq n.slot k=true
  ·have hb' :Nat.beq (n.at σ).slot k=true:=hb
   rw [hb']at hk
   have:=mr hb
   subst this
   have h9:some (n.at σ).ty=some t:=by simpa using hk
   have e:n.ty σ=t:=lc h9
   rw [←e]
   exact key n (lI ..)
  ·rw [s7]at hb
   have hb' :Nat.beq (n.at σ).slot k=false:=hb
   rw [hb']at hk
   exact ih (fun m hm=>key m (ly _ hm)) hk
theorem KV.step{σ' :Nat→OI}{c c' :Nat}(h:KV E G L ts Ss es done a w S σ c){i:Nat}{p0:TS}{C:Nat→Prop}(hi:L[i]? =some o)(hdN: ∀d,o.dst=some d→d<E.N.n)(hs2: ∀d,o.dst=some d→ ∀j p,L[j]? =some p→done.getD j false=true→p.dst=some d→i=j)(hwait: ∀e∈o.after,Region.binds .any e=true→done.getD e.on false=true)(ht:ts[i]? =some p0)(hun:done.getD i true=false)(hdep: ∀k∈p0.1,k=i∨done.getD k false=true)(hext:eS C w S w' S')(hC: ∀b,C b→E.base≤b∨E.B b)(hsat:ga w' S')(hown:dd E.base E.B w' S' (GO Ss c' σ'))(hσ: ∀k,k≠i→σ' k=σ k)(hv:(p0.at σ').p S' v)(hch: ∀k,es[k]? =some true→((done.setIfInBounds i true).getD k false=true↔eG es k<c')):
  KV E G L ts Ss es (done.setIfInBounds i true) (a.put o.dst v) w' S' σ' c' :=by
 have hlt:i<done.size:=by rw [h.dsz];exact(lJ.1 hi).1
 have hset: ∀j,(done.setIfInBounds i true).getD j false=true→j=i∨done.getD j false=true:=fun j hj=>by
  by_cases hij:i=j
  ·exact .inl hij.symm
  ·rw [uB false hij]at hj;exact .inr hj
 have hseti:(done.setIfInBounds i true).getD i false=true:=by simp [hlt]
 have hun' :done.getD i false=false:=by simp [hlt]at hun ⊢;exact hun
 have hput: ∀k,(∀d,o.dst=some d→d≠k)→(a.put o.dst v).tmps.getD k undef=a.tmps.getD k undef:=fun k hk=>by
  cases hd:o.dst with
  |none=>rfl
  |some d=>
   have hda:d<a.tmps.size:=by rw [h.size];exact hdN d hd
   rw [nk hda,di (hk d hd)]
 refine⟨h.ext.step hext hC,hsat,hown,?_,?_,by simp [h.dsz],fun j p hj hdone e he hb=>?_,fun k u hk hno=>?_,fun j p d' u hj hdone hd' hu=>?_,fun j u hj hu k hk=>?_,hch⟩
 ·cases o.dst with
  |none=>exact h.size
  |some d=>simp [Act.put,h.size]
 ·cases o.dst with
  |none=>exact h.defers
  |some d=>exact h.defers
 ·rcases hset j hdone with rfl|hj'
  ·rw [hi]at hj
   have:o=p:=by simpa using hj
   subst this
   exact pO (hwait e he hb)
  ·exact pO (h.down j p hj hj' e he hb)
 ·rw [hput k fun d hd e=>hno i o hi hseti (by rw [hd,e])]
  exact u.mono hext.keep (h.old k u hk fun j p hj hdone=>hno j p hj (pO hdone))
 ·by_cases hij:j=i
  ·subst hij
   rw [hi]at hj
   have:o=p:=by simpa using hj
   subst this
   have hda:d' <a.tmps.size:=by rw [h.size];exact hdN d' hd'
   rw [hd',nk hda,dq rfl]
   rw [ht]at hu
   have:p0=u:=by simpa using hu
   subst this
   exact hv
  ·have hj' :=(hset j hdone).resolve_left hij
   rw [hput d' fun d hd e=>by subst e;exact hij (hs2 d hd j p hj hj' hd').symm]
   have e1:u.at σ' =u.at σ:=congrArg u.2 (List.map_congr_left fun k hk=>hσ k fun e=>by
     subst e
     rw [h.deps j u hj' hu k hk]at hun';cases hun')
   rw [e1]
   exact Ty.mono _ hext.keep (h.new j p d' u hj hj' hd' hu)
 ·rcases hset j hj with rfl|hj'
  ·rw [ht]at hu
   have:p0=u:=by simpa using hu
   subst this
   rcases hdep k hk with rfl|h'
   ·exact hseti
   ·exact pO h'
  ·exact pO (h.deps j u hj' hu k hk)
end
theorem Bt{l t:List Oper}{ts:List TS}(hsl:qS E.N.n [] l=true)(hlen:ts.length=l.length)(hesl:es.length=l.length)(hd:DS E G (l++t) ts Ss es 0 0 l es)(hch:DM (l++t) es=true)(ht:sb (l++t) l.length t.length=true)(hQ: ∀a w S σ,St E (GO Ss (eG es es.length) σ) (BM l (Ih ts σ) G) a w S→wpListIn (fw E.r) 0 E.P (l++t).toArray Q t a w):
  ∀(fuel:Nat) (done:Array Bool) (a:Act) (w:World) (S:SH) (σ:Nat→OI) (c:Nat),jf done=fuel→(∀j,l.length≤j→done.getD j false=false)→c≤eG es es.length→KV E G (l++t) ts Ss es done a w S σ c→wpAnyIn (fw E.r) 0 E.P .any (l++t).toArray Q fuel done a w:=by
 have hL1: ∀i o,i<l.length→(l++t)[i]? =some o→l[i]? =some o:=fun i o hi h=>by rwa [sA hi]at h
 have hL2: ∀i o,l[i]? =some o→(l++t)[i]? =some o:=fun i o h=>by rw [sA (lJ.1 h).1];exact h
 have htail: ∀m o,l.length≤m→(l++t)[m]? =some o→qn (l++t) m=true∧dG m o=true:=fun m o hm ho=>by
  have hml:m<(l++t).length:=(lJ.1 ho).1
  rw [kN]at hml
  unfold sb at ht
  have:=lz.1 ht (m-l.length) (by simp;omega)
  rw [show l.length+(m-l.length)=m from by omega,ho]at this
  simp only [iP]at this
  exact⟨this.1,this.2.1⟩
 have hget:=fun i o (hi:l[i]? =some o)=>DS.get l es 0 0 hd i o hi
 have hedge: ∀i o,(l++t)[i]? =some o→dG i o=true:=fun i o hi=>by
  rcases jP i l.length with h|h
  ·obtain⟨_,_,_,_,_,_,_,h,_⟩:=hget i o (hL1 i o h hi)
   simpa using h
  ·exact(htail i o h hi).2
 obtain⟨hs1,hs2⟩:=vn l [] hsl
 have fin: ∀fuel done a w S σ c,jf done=fuel→(∀j,l.length≤j→done.getD j false=false)→c≤eG es es.length→KV E G (l++t) ts Ss es done a w S σ c→(∀i,i<l.length→done.getD i false=true)→wpAnyIn (fw E.r) 0 E.P .any (l++t).toArray Q fuel done a w:=by
  intro fuel done a w S σ c hu hfree hcle h hall
  have hcc:c=eG es es.length:=by
   rcases jP c (eG es es.length)with hlt|hge
   ·obtain⟨i,h1,h2,h3⟩:=qo hlt
    have:=(h.chain i h2).1 (hall i (by omega))
    omega
   ·omega
  subst hcc
  refine sD (n:=l.length) (fun m o hm ho=>(htail m o hm ho).1) hedge t l.length done fuel a w (fQ _) (by simp) h.dsz (fun j hj=>⟨fun hjd=>?_,fun hlt=>hall j hlt⟩) hu
   (hQ a w S σ ⟨h.ext,h.sat,h.own,h.size,h.defers,fun j u hj=>?_⟩)
  ·rcases jP j l.length with h' |h'
   ·exact h'
   ·rw [hfree j h']at hjd;cases hjd
  ·rcases zr l (Ih ts σ) j u (by unfold Ih;rw [List.length_map];exact hlen) hj with⟨i,o,h1,h2,h3⟩|⟨h1,h2⟩
   ·unfold Ih at h3
    rw [y7]at h3
    cases hf:ts[i]? with
    |none=>rw [hf]at h3;simp at h3
    |some f=>
     rw [hf]at h3
     have e:f.at σ=u:=by simpa using h3
     rw [←e]
     exact h.new i o j f (hL2 i o h1) (hall i (lJ.1 h1).1) h2 hf
   ·refine h.old j u h1 fun i o ho hdn=>?_
    rcases jP i l.length with h' |h'
    ·exact h2 o (nV (hL1 i o h' ho))
    ·rw [hfree i h']at hdn;cases hdn
 have lower: ∀done a w S σ c i,(∀j,l.length≤j→done.getD j false=false)→KV E G (l++t) ts Ss es done a w S σ c→i∈Region.ready .any (l++t).toArray done→l.length≤i→ ∀j,j<l.length→done.getD j false=true:=by
  intro done a w S σ c i hfree h hi hge j hj
  obtain⟨hun,p,hp,hwait⟩:=ss.1 hi
  have hp' :(l++t)[i]? =some p:=by simpa using hp
  have hcov:=(htail i p hge hp').1
  unfold qn at hcov
  have hre:=lz.1 hcov j (by simp;omega)
  exact eI h.down _ i j (fun q hq e he hb=>by
   have:q=p:=by rw [hp']at hq;simpa using hq.symm
   subst this
   exact hwait e he hb) hre
 have hchain: ∀i j,j<i→es[i]? =some true→es[j]? =some true→kG (l++t) (l++t).length i j=true:=fun i j hij h1 h2=>by
  unfold DM at hch
  have hil:i<es.length:=(lJ.1 h1).1
  have:=lz.1 (lz.1 hch i (by simpa using hil)) j (by simpa using hij)
  rw [h1,h2]at this
  simpa using this
 intro fuel
 induction fuel with
 |zero=>
  intro done a w S σ c hu hfree hcle h
  exact fin 0 done a w S σ c hu hfree hcle h fun i hi=>oU hu (by rw [h.dsz,kN];omega)
 |succ fuel ih=>
  intro done a w S σ c hu hfree hcle h
  by_cases hall: ∀i,i<l.length→done.getD i false=true
  ·exact fin _ done a w S σ c hu hfree hcle h hall
  have hready0: ∀m i,i<m→i<l.length→Region.ready .any (l++t).toArray done=[]→done.getD i false=true:=by
   intro m
   induction m with
   |zero=>intro i h;omega
   |succ m ihm=>
    intro i him hil hr
    have his:i<done.size:=by rw [h.dsz,kN];omega
    by_cases hdn:done.getD i true=true
    ·rw [←lk his];exact hdn
    ·exfalso
     obtain⟨o,ho⟩: ∃o,(l++t)[i]? =some o:=⟨l[i],hL2 i _ (nT hil)⟩
     have hmem:i∈Region.ready .any (l++t).toArray done:=by
      rw [ss]
      refine⟨by simpa using hdn,o,by simpa using ho,fun e he hb=>?_⟩
      have:=hedge i o ho
      unfold dG at this
      have:=lz.1 this e (by simpa using he)
      simp only [hb,su,sv,pu]at this
      exact ihm e.on (by omega) (by omega) hr
     rw [hr]at hmem;cases hmem
  refine⟨fun hr=>absurd (fun i hi=>hready0 (i+1) i (by omega) hi hr) hall,fun i hi=>?_⟩
  have hil:i<l.length:=by
   rcases jP i l.length with h' |h'
   ·exact h'
   ·exact absurd (lower done a w S σ c i hfree h hi h') hall
  obtain⟨hun,o,ho,hwait⟩:=ss.1 hi
  have ho' :(l++t)[i]? =some o:=by simpa using ho
  have hol:=hL1 i o hil ho'
  obtain⟨e,he,needs,u,h1,h2,h3,_,h4,h5⟩:=hget i o hol
  rw [mu]at h1 h3 h4
  have hF:=h.need ho' hun hwait h2 h3
  have his:i<done.size:=by rw [h.dsz,kN];omega
  have hun' :done.getD i false=false:=by rw [←lk his];exact hun
  have hu' :jf (done.setIfInBounds i true)=fuel:=by have:=mZ hun;omega
  have huq: ∀d,o.dst=some d→ ∀j p,(l++t)[j]? =some p→done.getD j false=true→p.dst=some d→i=j:=fun d hdd j p hj hjd hpd=>by
   rcases jP j l.length with h' |h'
   ·exact hs2 i j o p d hol (hL1 j p h' hj) hdd hpd
   ·rw [hfree j h']at hjd;cases hjd
  have hfree' : ∀j,l.length≤j→(done.setIfInBounds i true).getD j false=false:=fun j hj=>by
   rw [uB false (by omega)];exact hfree j hj
  have hbl:E.base≤w.heap.size:=h.ext.size
  have hwaits: ∀q,(l++t)[i]? =some q→ ∀e∈q.after,Region.binds .any e=true→done.getD e.on false=true:=fun q hq e he hb=>by
   have:q=o:=by rw [ho']at hq;simpa using hq.symm
   subst this
   exact hwait e he hb
  have hdpp: ∀k∈u.1,k=i∨done.getD k false=true:=fun k hk=>by
   have:=lz.1 h4 k hk
   simp only [iP,Bj]at this
   rcases this.2 with hb|hb
   ·exact .inl (mr hb)
   ·exact .inr (eI h.down _ i k hwaits hb)
  have hdNN: ∀d,o.dst=some d→d<E.N.n:=fun d hd=>(hs1 o (nV hol) d hd).1
  unfold wpOpIn
  rw [ho]
  show if _ then _ else _
  cases e with
  |false=>
   simp only at h5
   obtain⟨hdS,lo,hi',hwin,h5⟩:=h5
   rw [mu]at hwin
   obtain⟨d,hdd⟩:=Option.isSome_iff_exists.1 hdS
   have hdN:=(hs1 o (nV hol) d hdd).1
   unfold Ld at hwin
   rw [iP]at hwin
   obtain⟨hw1,hw2⟩:=hwin
   have hw1' :=mq hw1
   have hwk: ∀k,es[k]? =some true→(Nat.ble lo (eG es k)=true∨kG (l++t) (l++t).length i k=true)∧(Nat.blt (eG es k) hi' =true∨kG (l++t) (l++t).length k i=true):=fun k hk=>by
    have hkl:k<es.length:=(lJ.1 hk).1
    have:=lz.1 hw2 k (by simpa using hkl)
    rw [hk]at this
    simpa using this
   have hlo:lo≤c:=by
    rcases jP c lo with hlt|hge
    ·exfalso
     obtain⟨k,hk1,hk2,hk3⟩:=qo (es:=es) (c:=c) (k:=es.length) (by omega)
     rcases(hwk k hk2).1 with hb|hb
     ·have:=mq hb;omega
     ·have:=(h.chain k hk2).1 (eI h.down _ i k hwaits hb)
      omega
    ·exact hge
   have hhi:c≤hi' :=by
    rcases jP hi' c with hlt|hge
    ·exfalso
     obtain⟨k,hk1,hk2,hk3⟩:=qo (es:=es) (c:=hi') (k:=es.length) (by omega)
     rcases(hwk k hk2).2 with hb|hb
     ·simp only [pu]at hb;omega
     ·have hkd:done.getD k false=true:=(h.chain k hk2).2 (by omega)
      have:=eI h.down _ k i (fun q hq e he hb=>h.down k q hq hkd e he hb) hb
      rw [this]at hun';cases hun'
    ·exact hge
   have h6:=h5 c σ hlo hhi a w S h.sat h.own hF
   have hch' : ∀k,es[k]? =some true→((done.setIfInBounds i true).getD k false=true↔eG es k<c):=fun k hk=>by
    have hne:i≠k:=fun e=>by subst e;rw [he]at hk;cases hk
    rw [uB false hne];exact h.chain k hk
   by_cases hw:Region.wanted o (yielded (l++t).toArray a.tmps)=true
   ·rw [dq hw]at h6 ⊢
    refine iQ (fun a' w' ⟨v,S',ha,hx,hs,hv⟩=>?_) h6
    subst ha
    exact ih _ _ _ S' _ c hu' hfree' hcle (h.step ho' hdNN huq hwait h1 hun hdpp hx (fun _ hb=>hb.elim) hs (h.own.ext0 hx) (fun _ _=>rfl) hv hch')
   ·rw [di hw]at h6 ⊢
    exact⟨fun _ _=>trivial,ih _ _ _ S _ c hu' hfree' hcle (h.step ho' hdNN huq hwait h1 hun hdpp (eX mR _ _) (fun _ hb=>hb.elim) h.sat h.own (fun _ _=>rfl) h6 hch')⟩
  |true=>
   simp only [mu]at h5
   -- it is the next one of the chain
   have hca:eG es i=c:=by
    have hn: ¬eG es i<c:=fun hlt=>by rw [(h.chain i he).2 hlt]at hun';cases hun'
    rcases jP c (eG es i)with hlt|hge
    ·exfalso
     obtain⟨k,hk1,hk2,hk3⟩:=qo hlt
     have hkd:done.getD k false=true:=eI h.down _ i k hwaits (hchain i k hk1 he hk2)
     have:=(h.chain k hk2).1 hkd
     omega
    ·omega
   subst hca
   have h6:=h5 σ a w S h.sat h.own hF hbl
   have hch' : ∀k,es[k]? =some true→((done.setIfInBounds i true).getD k false=true↔eG es k<eG es i+1):=fun k hk=>by
    by_cases hik:i=k
    ·subst hik
     constructor
     ·intro _;omega
     ·intro _;simp [his]
    ·rw [uB false hik,h.chain k hk]
     constructor
     ·intro h;omega
     ·intro hlt
      rcases jP i k with hlk|hlk
      ·have:=yd hlk he;omega
      ·exact yd (by omega) hk
   have hcle' :eG es i+1≤eG es es.length:=yd (by omega) he
   by_cases hw:Region.wanted o (yielded (l++t).toArray a.tmps)=true
   ·rw [dq hw]at h6 ⊢
    refine iQ (fun a' w' ⟨v,S',x,ha,hx,hs,hown,hv⟩=>?_) h6
    subst ha
    exact ih _ _ _ S' _ _ hu' hfree' hcle' (h.step ho' hdNN huq hwait h1 hun hdpp hx (fun b ⟨f,hf,hb⟩=>(dd.mem h.own f hf).2 b hb) hs hown (fun k hk=>wR σ x hk) hv hch')
   ·rw [di hw]at h6 ⊢
    obtain⟨x,hown,hv⟩:=h6
    exact⟨fun _ _=>trivial,ih _ _ _ S _ _ hu' hfree' hcle' (h.step ho' hdNN huq hwait h1 hun hdpp (eX mR _ _) (fun _ hb=>hb.elim) h.sat hown (fun k hk=>wR σ x hk) hv hch')⟩
theorem nI{id:Nat}(m:Nat)(ts:List TS)(es:List Bool)(Ss:List ((Nat→OI)→List OE))(hO:Ss[0]? =some fun _=>O)(hm:E.P.follows .mixedOrders=true)(hsl:qS E.N.n [] (L.take m)=true)(hlen:ts.length=(L.take m).length)(hesl:es.length=(L.take m).length)(hch:DM L es=true)(ht:sb L (L.take m).length (L.drop m).length=true)(hd:DS E G L ts Ss es 0 0 (L.take m) es)(k: ∀σ:Nat→OI,RG E L.toArray Q (L.drop m) (GO Ss (eG es es.length) σ) (BM (L.take m) (Ih ts σ) G)):CG E Q (.region id L.toArray true) O G:=fun a w S st=>by
 have hL:L=L.take m++L.drop m:=(pw m L).symm
 generalize L.take m=l at hL hsl hlen hesl ht hd k
 generalize L.drop m=t at hL ht k
 subst hL
 refine wpIn_region_any hm ?_
 obtain⟨he,hs⟩:=rr (w:=w) st.sat
 have hO0:GO Ss 0 (fun _=>rx)=O:=by unfold GO;rw [hO]
 refine Bt hsl hlen hesl hd hch ht (fun a w S σ st=>k σ a w S st) _ _ _ _ S (fun _=>rx) 0 ?_ (fun j _=>?_) (jM _)
  ⟨st.ext.step0 he,hs,by rw [hO0];exact st.own.ext0 he,st.facts.size,st.facts.defers,by simp,fun j o hj hdone=>?_,fun k t hk _=>st.facts.at_ k t hk,fun j o d t hj hdone=>?_,fun j p hdone=>?_,fun k _=>⟨fun hdone=>?_,fun h=>(by omega)⟩⟩
 ·unfold jf;rw [D7,D4];simp
 ·simp [sy];split<;>rfl
 ·simp [sy]at hdone
  split at hdone<;>simp at hdone
 ·simp [sy]at hdone
  split at hdone<;>simp at hdone
 ·simp [sy]at hdone
  split at hdone<;>simp at hdone
 ·simp [sy]at hdone
  split at hdone<;>simp at hdone
theorem oL{p:Nat→(Nat→OI)→Prop}{lo:Nat}(h: ∀σ,p lo σ): ∀c σ,lo≤c→c≤lo→p c σ:=fun c σ h1 h2=>by
 have:c=lo:=by omega
 subst this;exact h σ
theorem yE{p:Nat→(Nat→OI)→Prop}{lo hi:Nat}(h: ∀σ,p lo σ)(k: ∀c σ,lo+1≤c→c≤hi→p c σ): ∀c σ,lo≤c→c≤hi→p c σ:=fun c σ h1 h2=>by
 by_cases e:c=lo
 ·subst e;exact h σ
 ·exact k c σ (by omega) h2
variable{post:OI→List OE}
theorem uc{op:Op}{ty:TypeId}(hnd: ∀c,op≠ .defer c)(h: ∀a w S,ga w S→dd E.base E.B w S O→cG E.N S a G→E.base≤w.heap.size→ ∃w' S' x,(execOp a.eval ⟨none,op,ty,pos,after,g⟩).run E.P w= .ok .skip w' ∧eS (CP O) w S w' S' ∧ga w' S' ∧dd E.base E.B w' S' (post x)):
  EffOK E O G ⟨none,op,ty,pos,after,g⟩ post (fun _=>wW):=fun a w S hs ho hf hb=>by
 obtain⟨w',S',x,h1,h2,h3,h4⟩:=h a w S hs ho hf hb
 refine⟨hnd,?_⟩
 rw [h1]
 exact⟨undef,S',x,rfl,h2,h3,h4,trivial⟩

abbrev HL:=List (Nat×Value)
def tN:HL→Nat→Option Value
 |[],_=>none
 |p::hs,o=>bif Nat.beq p.1 o then some p.2 else tN hs o
theorem oh: ∀{hs:HL} {o:Nat} {v:Value},tN hs o=some v→(o,v)∈hs
 |[],_,_,h=>by cases h
 |p::hs,o,v,h=>by
  unfold tN at h
  by_cases hb:Nat.beq p.1 o=true
  ·rw [hb]at h
   have e1:=mr hb
   have e2:p.2=v:=lc h
   subst e1 e2
   exact lI ..
  ·rw [s7]at hb
   rw [hb]at h
   exact ly _ (oh h)
def rH{α:Type}(r:Rp α)(hs:HL):Rp α where
 sz:=r.sz
 agg:=r.agg
 rc:=fun S cs x=>r.rc S cs x∧ ∀p∈hs,cs[p.1]? =some p.2
 mono:=fun h k=>⟨r.mono h k.1,k.2⟩
 len:=fun k=>r.len k.1
 one:=fun k=>r.one k.1
 sc:=r.sc
theorem fD{hs:HL}{get:α→β}(h:jj r off q get):jj (rH r hs) off q get:=fun S cs x k=>h S cs x k.1
theorem Gu(h:cs[off]? =some v):(cs.drop off).take 1=[v]:=by
 have hlt:=(lJ.1 h).1
 rw [wK hlt,(lJ.1 h).2]
 rfl
theorem Pt{hs:HL}(h:tN hs off=some v):jj (rH r hs) off rV (fun _=>v):=fun S cs x k=>by
 have h1:=k.2 _ (oh h)
 exact⟨Gu h1,r.one k.1 v (nV h1)⟩
def HZ(z:List Value):HL→Prop
 |[]=>True
 |p::hs=>z[p.1]? =some p.2∧HZ z hs
theorem HZ.all: ∀{hs:HL},HZ z hs→ ∀p∈hs,z[p.1]? =some p.2
 |_::_,⟨h,_⟩,_,.head _=>h
 |_::_,⟨_,h⟩,_,.tail _ hm=>HZ.all h _ hm
theorem zH{x:α}{hs:HL}(h: ∀S,r.rc S z x)(k:HZ z hs): ∀S,(rH r hs).rc S z x:=fun S=>⟨h S,k.all⟩
def Lz(hs:HL)(off sz:Nat):Bool:=hs.all fun p=>Nat.blt p.1 off||Nat.ble (off+sz) p.1
def Mm(hs:HL)(off sz:Nat)(v:Option Value):HL→Prop
 |[]=>True
 |p::l=>((v=some p.2∧p.1=off∧sz=1)∨(tN hs p.1=some p.2∧(Nat.blt p.1 off||Nat.ble (off+sz) p.1)=true))∧Mm hs off sz v l
theorem Mm.all{hs:HL}{v:Option Value}: ∀{l:HL},Mm hs off sz v l→ ∀p∈l,(v=some p.2∧p.1=off∧sz=1)∨(tN hs p.1=some p.2∧(Nat.blt p.1 off||Nat.ble (off+sz) p.1)=true)
 |_::_,⟨h,_⟩,_,.head _=>h
 |_::_,⟨_,h⟩,_,.tail _ hm=>Mm.all h _ hm
theorem o9{ds:List Value}{k:Nat}(hl:ds.length=sz)(hoff:off+sz≤cs.length)(h:(Nat.blt k off||Nat.ble (off+sz) k)=true):(cs.take off++ds++cs.drop (off+sz))[k]? =cs[k]? :=by
 simp only [Bj,pu,Nat.ble_eq]at h
 have ht:(cs.take off).length=off:=by simp;omega
 rcases h with h|h
 ·rw [sA (by simp;omega),sA (by omega),uD h]
 ·rw [Bm (by simp;omega),qE]
  congr 1
  simp only [kN,ht,hl];omega
theorem HU{ds:List Value}(hd:ds=[v])(hoff:off+1≤cs.length):(cs.take off++ds++cs.drop (off+1))[off]? =some v:=by
 subst hd
 have ht:(cs.take off).length=off:=by simp;omega
 rw [sA (by simp;omega),Bm (by omega),ht,Nat.sub_self]
 rfl
theorem qT{hs hs' :HL}{x:α}{y:β}(h:ft r off q set)(hk:Mm hs off q.sz none hs')(hoff:Nat.ble (off+q.sz) r.sz=true):mU (rH r hs) (rH r hs') off q x y (set x y):=fun S cs ds h1 h2=>by
 refine⟨h S cs x ds y h1.1 h2,fun p hp=>?_⟩
 rcases hk.all p hp with⟨e,_⟩|⟨g1,g2⟩
 ·cases e
 ·have hl:=r.len h1.1
  rw [o9 (q.len h2) (by have:=mq hoff;omega) g2]
  exact h1.2 _ (oh g1)
theorem MZ{hs:HL}(h:ft r off q set)(hk:Lz hs off q.sz=true)(hoff:Nat.ble (off+q.sz) r.sz=true):ft (rH r hs) off q set:=fun S cs x ds y h1 h2=>by
 refine⟨h S cs x ds y h1.1 h2,fun p hp=>?_⟩
 have hl:=r.len h1.1
 rw [o9 (q.len h2) (by have:=mq hoff;omega) (lz.1 hk p hp)]
 exact h1.2 _ hp
section
variable{e:Exit}
section
variable{ty:TypeId}
theorem lO{op:Op}{t:OI→Ty}(h:EffOK E O G ⟨none,op,ty,pos,after,none⟩ post t)(k: ∀x,RG E ops Q rest (post x) G):RG E ops Q (⟨none,op,ty,pos,after,none⟩::rest) O G:= .of rfl fun a w S st=>
 kr (fun a' w' ⟨v,S',x,ha,hx,hs,ho,hv⟩=>by
  subst ha
  exact k x _ _ S' ⟨st.ext.step hx fun b ⟨f,hf,hb⟩=>(dd.mem st.own f hf).2 b hb,hs,ho,st.facts.mono hx.keep⟩) (h a w S st.sat st.own st.facts st.base_le)
theorem gR{x:α}{y:β}{v:Operand}(ti:TI E.P U sz bytes agg z)(hsz:q.sz=sz)(hset:mU r r' off q x y x')(hoff:Nat.ble (off+q.sz) r.sz=true)(hp:ay E.N G p (tV (aD b off)))(hv:ay E.N G v (tD q y)):EffOK E (bx r T b x::O) G ⟨none,.store U p v,ty,pos,after,g⟩ (fun _=>bx r' T b x' ::O) (fun _=>wW):=uc (fun _ h=>(by cases h)) fun a w S hs ho hf hb=>by
 have h1:a.eval p=aD b off:=hp S a hf
 obtain⟨ds,h2,h3⟩:=hv S a hf
 obtain⟨⟨hno,cur,h5,h6⟩,_⟩:=ho.1
 have hl:=r.len h6
 have hoff' :=mq hoff
 obtain⟨w',hr,e1,e2,e3,e4,e5,e6⟩:=gP ti hsz h3 h5 (off:=off) (by simp at hl;omega)
 have hrun:(execOp a.eval ⟨none,.store U p v,ty,pos,after,g⟩).run E.P w= .ok .skip w' :=by
  simp [execOp,h1,h2,Instr.storeAt,aD,Instr.sureAddr,hr]
 obtain⟨g1,g2,g3⟩:=kq (O:=O) hs (bx r T b x) (bx r' T b x') ho (fun _=>ol) (fun _=>ol) ⟨e1,e2,e3,e4.1,e4.2⟩ e6 ⟨hno,_,e5,by simpa using hset S _ _ h6 h3⟩ hno
 exact⟨w',S,rx,hrun,g1.more fun k hk=>⟨_,lI ..,hk⟩,g2,g3⟩
theorem xY{hs hs' :HL}{x:α}{y:β}{u:Value}{v:Operand}(ti:TI E.P U 1 bytes false z)(hsz:q.sz=1)(hag:q.agg=false)(hset:ft r off q set)(hoff:Nat.ble (off+1) r.sz=true)(hk:Mm hs off 1 (some u) hs')(hp:ay E.N G p (tV (aD b off)))(hv:ay E.N G v (tD q y))(hu:ay E.N G v (tV u)):EffOK E (bx (rH r hs) T b x::O) G ⟨none,.store U p v,ty,pos,after,g⟩ (fun _=>bx (rH r hs') T b (set x y)::O) (fun _=>wW):=uc (fun _ h=>(by cases h)) fun a w S hsat ho hf hb=>by
 have h1:a.eval p=aD b off:=hp S a hf
 obtain⟨ds,h2,h3⟩:=hv S a hf
 have hu' :a.eval v=u:=hu S a hf
 obtain⟨⟨hno,cur,h5,h6⟩,_⟩:=ho.1
 have hl:=r.len h6.1
 have hoff' :=mq hoff
 have hdl:=q.len h3
 have hds:ds=[u]:=by
  obtain⟨d,hd⟩:=List.length_eq_one_iff.1 (by rw [hdl,hsz]:ds.length=1)
  subst hd
  have e1:q.val [d]=d:=by simp [Rp.val,hag]
  rw [h2,e1]at hu'
  rw [hu']
 obtain⟨w',hr,e1,e2,e3,e4,e5,e6⟩:=gP ti hsz h3 h5 (off:=off) (by simp at hl;omega)
 have hrun:(execOp a.eval ⟨none,.store U p v,ty,pos,after,g⟩).run E.P w= .ok .skip w' :=by
  simp [execOp,h1,h2,Instr.storeAt,aD,Instr.sureAddr,hr]
 rw [hsz]at e5
 have hnew:(rH r hs').rc S (cur.toList.take off++ds++cur.toList.drop (off+1)) (set x y):=by
  have h7:=hset S _ _ _ _ h6.1 h3
  rw [hsz]at h7
  refine⟨h7,fun p hp=>?_⟩
  rcases hk.all p hp with⟨f1,f2,_⟩|⟨f1,f2⟩
  ·rw [f2]
   exact HU (by rw [hds,lc f1]) (by omega)
  ·rw [o9 (by rw [hdl,hsz]) (by omega) f2]
   exact h6.2 _ (oh f1)
 obtain⟨g1,g2,g3⟩:=kq (O:=O) hsat (bx (rH r hs) T b x) (bx (rH r hs') T b (set x y)) ho (fun _=>ol) (fun _=>ol) ⟨e1,e2,e3,e4.1,e4.2⟩ e6 ⟨hno,_,e5,by simpa using hnew⟩ hno
 exact⟨w',S,rx,hrun,g1.more fun k hk=>⟨_,lI ..,hk⟩,g2,g3⟩
end
section
variable{ty:TypeId}
theorem kV{hs:HL}{x:α}{u:Value}(ti:TI E.P U 1 bytes false z)(hk:tN hs off=some u)(hm:bx (rH r hs) T b x∈O)(hp:ay E.N G p (tV (aD b off))):
  bU E O G ⟨dst,.load U p,ty,pos,after,g⟩ (tV u):=(aT (q:=rV) ti rfl rfl (Pt hk) hm hp).imp fun _ _ h=>(tk.1 h).1
theorem xz{q:Rp α}{r:Rp β}{hs:HL}{x:β}{l:Option Nat}(ti:TI E.P U 1 bytes false z)(hk:tN hs off=some (ai l cap xs.length))(hm:bx (rH r hs) T b x∈O)(hm2:gX q V l cap xs∈O)(hp:ay E.N G p (tV (aD b off))):
  bU E O G ⟨dst,.load U p,ty,pos,after,g⟩ (tO q l cap xs):=fun a w S hs' ho hf=>
 kr (fun _ _ ⟨v,S',h1,h2,h3,h4⟩=>⟨v,S',h1,h2,h3,h4,by
  have h5:v=ai l cap xs.length:=h4
  rw [h5]
  exact kP (((ho.ext0 h2).mem _ hm2).1)⟩) (kV (g:=g) (ty:=ty) (pos:=pos) (after:=after) (dst:=dst) ti hk hm hp a w S hs' ho hf)
theorem IN{t:Ty}(h1: ∀S v,t.p S v→v.oneCell' =true)(hx:ay E.N G x t):bU E O G ⟨dst,.box T x,ty,pos,after,g⟩ (bz (rT t) ()):=
 Dk (fun S a hf=>Pd.2 ⟨h1 _ _ (hx S a hf),hx S a hf⟩)
end
def IC:HL→HL→Prop
 |[],_=>True
 |p::l,hs=>tN hs p.1=some p.2∧IC l hs
theorem IC.all{hs:HL}: ∀{l:HL},IC l hs→ ∀p∈l,p∈hs
 |_::_,⟨h,_⟩,_,.head _=>oh h
 |_::_,⟨_,h⟩,_,.tail _ hm=>IC.all h _ hm
end

variable{O' :List OE}
theorem EffOK.perm{t:OI→Ty}(h:EffOK E O' G o post t)(k: ∀{w S},dd E.base E.B w S O→dd E.base E.B w S O')(m: ∀f∈O',f∈O):EffOK E O G o post t:=fun a w S hs ho hf hb=>
 kr (fun _ _ ⟨v,S',x,h1,h2,h3,h4,h5⟩=>⟨v,S',x,h1,h2.more fun _ ⟨f,hf,hk⟩=>⟨f,m f hf,hk⟩,h3,h4,h5⟩) (h a w S hs (k ho) hf hb)
variable{x0:OE}
namespace EffOK
section
variable{t:OI→Ty}
theorem fr1(h:EffOK E (x1::x0::O) G o post t):EffOK E (x0::x1::O) G o post t:=h.perm (fun hw=>dd.swap hw) (fun f hf=>by simp only [ia]at hf ⊢;rcases hf with h|h|h<;>simp [h])
theorem fr2{x2:OE}(h:EffOK E (x2::x0::x1::O) G o post t):EffOK E (x0::x1::x2::O) G o post t:=h.perm (fun hw=>ni hw) (fun f hf=>by simp only [ia]at hf ⊢;rcases hf with h|h|h|h<;>simp [h])
theorem fr3{x2 x3:OE}(h:EffOK E (x3::x0::x1::x2::O) G o post t):EffOK E (x0::x1::x2::x3::O) G o post t:=h.perm (fun hw=>qr hw) (fun f hf=>by simp only [ia]at hf ⊢;rcases hf with h|h|h|h|h<;>simp [h])
theorem post_imp{post' :OI→List OE}(h:EffOK E O G o post t)(k: ∀{w S x},dd E.base E.B w S (post x)→dd E.base E.B w S (post' x)):EffOK E O G o post' t:=fun a w S hs ho hf hb=>
 kr (fun _ _ ⟨v,S',x,h1,h2,h3,h4,h5⟩=>⟨v,S',x,h1,h2,h3,k h4,h5⟩) (h a w S hs ho hf hb)
end
end EffOK
variable{ats:Array TypeId}{mm:Bool}{zs:List α}
section
variable{ty:TypeId}
theorem DH{l:Option Nat}{foff:Nat}{v:β}{i:Int}(ti:TI E.P T sz bytes agg z)(hsz:q.sz=sz)(hset:ft r foff q set)(hoff:Nat.ble (foff+q.sz) r.sz=true)(hy:eZ xs i=some y)(hz:xs.set i.toNat (set y v)=zs)(hp:ay E.N G p (tV (iG l (i.toNat*r.sz+foff))))(hx:ay E.N G x (tD q v)):EffOK E (cu r U l cap xs::O) G ⟨none,.store T p x,ty,pos,after,g⟩ (fun _=>cu r U l cap zs::O) (fun _=>wW):=uc (fun _ h=>(by cases h)) fun a w S hsat hown hf hbase=>by
 subst hz
 have h1:a.eval p=iG l (i.toNat*r.sz+foff):=hp S a hf
 obtain⟨ds,h2,h3⟩:=hx S a hf
 obtain⟨h0,hy'⟩:=iy hy
 have hlt:i.toNat<xs.length:=(lJ.1 hy').1
 obtain⟨cells,hraw,hrc,hno⟩:=hown.1.1
 obtain⟨b,cur,rfl,hb,hle,hcs,h6⟩:=mC hown.1.1 hy'
 obtain⟨cur',hb',hle',hmax,hcs',hct⟩:=hraw
 have hcc:cur' =cur:=by rw [hb]at hb';injection hb' with e;injection e with e1;exact e1.symm
 subst hcc
 have hno' :S b=none:=hno b rfl
 have hoff' :=mq hoff
 have hl3:=q.len h3
 have hmul:i.toNat*r.sz+r.sz≤xs.length*r.sz:=by rw [←Nat.succ_mul];exact ta _ hlt
 have hmul2:xs.length*r.sz≤cur'.size:=by rw [hcs];exact ta _ hle
 obtain⟨w',hr,e1,e2,e3,e4,e5,e6⟩:=gP ti hsz h3 hb (off:=i.toNat*r.sz+foff) (by omega)
 have hrun:(execOp a.eval ⟨none,.store T p x,ty,pos,after,g⟩).run E.P w= .ok .skip w' :=by
  simp [execOp,h1,h2,Instr.storeAt,iG,aD,Instr.sureAddr,hr]
 have hnew:=hset S _ _ _ _ h6 h3
 have hrc' :=wp hnew hrc hlt
 have hcl:=jo hrc
 have hcells:(cur'.toList.take (i.toNat*r.sz+foff)++ds++cur'.toList.drop (i.toNat*r.sz+foff+q.sz)).take (xs.length*r.sz)=
   cells.take (i.toNat*r.sz)++(((cur'.toList.drop (i.toNat*r.sz)).take r.sz).take foff++ds++((cur'.toList.drop (i.toNat*r.sz)).take r.sz).drop (foff+q.sz))++cells.drop (i.toNat*r.sz+r.sz):=by
  subst hct
  apply Bo
  intro j
  simp only [List.getElem?_take,List.getElem?_append,qE,vW,Ad,kN,Ae]
  rcases jP j (xs.length*r.sz)with hj|hj
  ·simp only [hj,pf]
   rcases jP j (i.toNat*r.sz)with hj1|hj1
   ·rw [dq (by omega),dq (by omega),dq (by omega),dq (by omega),dq (by omega),dq (by omega)]
   ·rcases jP j (i.toNat*r.sz+foff)with hj2|hj2
    ·rw [dq (by omega),dq (by omega),dq (by omega),dq (by omega),di (by omega),dq (by omega),dq (by omega),dq (by omega),dq (by omega)]
     congr 1;omega
    ·rcases jP j (i.toNat*r.sz+foff+q.sz)with hj3|hj3
     ·rw [dq (by omega),di (by omega),dq (by omega),di (by omega),dq (by omega),di (by omega)]
      congr 1;omega
     ·rw [di (by omega)]
      rcases jP j (i.toNat*r.sz+r.sz)with hj4|hj4
      ·rw [dq (by omega),di (by omega),di (by omega),dq (by omega)]
       congr 1;omega
      ·rw [di (by omega),dq (by omega)]
       congr 1;omega
  ·rw [di (by omega),di (by omega),di (by omega)]
 obtain⟨g1,g2,g3⟩:=kq (O:=O) hsat (cu r U (some b) cap xs) (cu r U (some b) cap (xs.set i.toNat (set y v))) hown (fun k=>⟨fun h=>(lc h).symm,fun h=>by rw [h];rfl⟩) (fun k=>⟨fun h=>(lc h).symm,fun h=>by rw [h];rfl⟩) ⟨e1,e2,e3,e4.1,e4.2⟩ e6
  ⟨_,⟨_,e5,by rw [yz];exact hle,hmax,by simp only [CQ,kN,vW,Ad,Ae];omega,by rw [yz];exact hcells⟩,hrc',fun k hk=>by rw [←lc hk];exact hno'⟩ hno'
 exact⟨w',S,rx,hrun,g1.more fun c hc=>⟨_,lI ..,by rw [hc];rfl⟩,g2,g3⟩
theorem DI{v:α}{i:Int}(ti:TI E.P U sz bytes agg z)(hsz:r.sz=sz)(hy:eZ xs i=some y)(hz:xs.set i.toNat v=zs)(hp:ay E.N G p (tV (aD b (i.toNat*r.sz))))(hv:ay E.N G x (tD r v)):EffOK E (bx (lR r n) T b xs::O) G ⟨none,.store U p x,ty,pos,after,g⟩ (fun _=>bx (lR r n) T b zs::O) (fun _=>wW):=uc (fun _ h=>(by cases h)) fun a w S hsat hown hf hbase=>by
 subst hz
 have h1:a.eval p=aD b (i.toNat*r.sz):=hp S a hf
 obtain⟨ds,h2,h3⟩:=hv S a hf
 obtain⟨⟨hno,cur,h5,h6⟩,_⟩:=hown.1
 obtain⟨h0,hy'⟩:=iy hy
 have hlt:i.toNat<xs.length:=(lJ.1 hy').1
 have hl:=jo h6.2
 simp only [Ae]at hl
 have hmul:i.toNat*r.sz+r.sz≤xs.length*r.sz:=by rw [←Nat.succ_mul];exact ta _ hlt
 obtain⟨w',hr,e1,e2,e3,e4,e5,e6⟩:=gP ti hsz h3 h5 (off:=i.toNat*r.sz) (by omega)
 have hrun:(execOp a.eval ⟨none,.store U p x,ty,pos,after,g⟩).run E.P w= .ok .skip w' :=by
  simp [execOp,h1,h2,Instr.storeAt,aD,Instr.sureAddr,hr]
 obtain⟨g1,g2,g3⟩:=kq (O:=O) hsat (bx (lR r n) T b xs) (bx (lR r n) T b (xs.set i.toNat v)) hown (fun _=>ol) (fun _=>ol) ⟨e1,e2,e3,e4.1,e4.2⟩ e6 ⟨hno,_,e5,by rw [yz];exact h6.1,wp h3 h6.2 hlt⟩ hno
 exact⟨w',S,rx,hrun,g1.more fun c hc=>⟨_,lI ..,hc⟩,g2,g3⟩

section
theorem lm{x:α}(ti:TI E.P T sz bytes agg z)(hx: ∀S,r.rc S z x):
  EffOK E O G ⟨some d,.alloc T,ty,pos,after,g⟩ (fun i=>bx r T (i.h 0).2 x::O) (fun i=>tV (aD (i.h 0).2 0)):=fun a w S hs ho hf hb=>by
 obtain⟨zv,hzr,hzc⟩:=ti.zero w
 obtain⟨he,hs',hno⟩:=dZ (w:=w) (.cells z.toArray T (0,0)) hs
 have hrun:(execOp a.eval ⟨some d,.alloc T,ty,pos,after,g⟩).run E.P w= .ok (.value (aD w.heap.size 0)) (w.alloc (.cells z.toArray T (0,0))):=by
  simp [execOp,Instr.alloc,hzr,newVar,newRow,hzc,aD]
 refine⟨fun c h=>(by cases h),?_⟩
 rw [hrun]
 exact⟨_,S,oi none w.heap.size,rfl,he.more fun _ hb=>hb.elim,hs',mG ho he (e:=bx r T w.heap.size x) ⟨hno,z.toArray,wH w _,by simpa using hx S⟩ (fun b hb=>td hb.symm) hb,rfl⟩
theorem zQ{f:FuncId}{xs:List Operand}{ts:List Ty}(hc:aj E.P f=true)(hs:fc E.P f ts false r T ys)(hx:iB E.N G xs ts):
  EffOK E O G ⟨some d,.call ⟨.value (.func f),xs.toArray,ats⟩,ty,pos,after,g⟩ (fun i=>cu r T (i.h 0).1 (i.h 0).2 ys::O) (fun i=>tV (ai (i.h 0).1 (i.h 0).2 ys.length)):=Gn (mm:=false) hc hs hx (fun _ _ _ _ _=>rfl)
end
section
theorem eW{l:Option Nat}{o i:Nat}(hf:bQ E.P T i=some (off,sz))(h0:Nat.beq sz 0=false)(hm:iZ mm r U l cap xs∈O)(hy:eZ xs j=some y)(hp:ay E.N G p (tV (iG l o)))(he:o+off=n):
  bU E O G ⟨dst,.fieldAddr T p i,ty,pos,after,g⟩ (tV (iG l n)):=by
 subst he
 exact yR hf h0 hm hy hp
theorem aS(hx:ay E.N G x (tV (aD b off))):bU E O G ⟨dst,.nilCheck x,ty,pos,after,g⟩ (tV (aD b off)):= .of_pure fun a w S _ _ hf=>by
 have h1:a.eval x=aD b off:=hx S a hf
 exact⟨aD b off,by simp [execOp,h1,aD],rfl⟩
theorem Et(hx:ay E.N G x (bz r y)):bU E O G ⟨dst,.nilCheck x,ty,pos,after,g⟩ (bz r y):= .of_pure fun a w S _ _ hf=>by
 have h0:=hx S a hf
 obtain⟨b,off,c,U,fr,h1,h2,h3⟩:=h0
 exact⟨_,by simp [execOp,h1],b,off,c,U,fr,rfl,h2,h3⟩
theorem pB{t:Ty}(ti:TI E.P U 1 bytes false z)(hp:ay E.N G p (bz (rT t) ())):bU E O G ⟨dst,.load U p,ty,pos,after,g⟩ t:=xA ti hp
end
theorem lH(h:O=O')(k:RG E ops Q rest O' G):RG E ops Q rest O G:=by subst h;exact k
theorem hW{u:Value}(h:ay N G x (tV u))(ho:u.oneCell' =true):ay N G x (tD rV u):=fun S a hf=>tk.2 ⟨h S a hf,ho⟩
end

theorem By{l:Option Nat}{t' e' :TypeId}(ht:P.underlying t' =some (.slice e'))(h:uj mm r U l cap xs w S)(hs:cz xs lo (xs.length:Int)=some ys):
  ∃news,Src P r.sz t' (kB r.sz l cap lo.toNat ys.length) ys.length news w∧nN r S news ys:=by
 obtain⟨cells,h1,h2,_⟩:=h
 obtain⟨lo',m,rfl,hm,h3,h4,rfl⟩:=d3 hs
 have hm' :m=xs.length:=by omega
 subst hm'
 rw [Ac,vX]
 cases l with
 |none=>
  have hx:xs=[]:=sB h1.1
  subst hx
  exact⟨[],by simpa [kB] using Src.ofNil w ht 0,by simp [nN]⟩
 |some b=>
  obtain⟨cur,g1,g2,g3,g4,g5⟩:=h1
  have hlen:(xs.drop lo').length=xs.length-lo' :=by simp
  have hcl:=jo h2
  have hsp:xs=xs.take lo' ++xs.drop lo' :=(pw lo' xs).symm
  have htl:(xs.take lo').length=lo' :=by simp;omega
  have hr:nN r S (cells.drop (lo' *r.sz)) (xs.drop lo'):=by
   rw [hsp]at h2
   have:=(md h2).2
   rwa [htl]at this
  have hmul:lo' *r.sz≤xs.length*r.sz:=ta _ h3
  refine⟨cells.drop (lo' *r.sz),?_,hr⟩
  unfold kB
  refine Src.ofSlice w ht _ _ _ _ (jo hr) (fun j u hu=>?_) (tz hr)
  by_cases hc:cap=lo'
  ·have:xs.drop lo' =[]:=v7 (by omega)
   rw [this]at hr
   have hr' :cells.drop (lo' *r.sz)=[]:=hr
   rw [hr']at hu;simp at hu
  ·simp only [hc,pt]
   rw [fO,rL g1]
   rw [qE,←g5]at hu
   have hj:lo' *r.sz+j<xs.length*r.sz:=by
    have:=(lJ.1 hu).1
    simp at this;omega
   rw [uD hj]at hu
   simpa using hu
section
variable{ty:TypeId}
theorem Gx{l:Option Nat}{yt:TypeId}(ht:E.P.underlying t=some (.slice e))(hm:iZ mm r U l cap xs∈O)(hs:cz xs lo (xs.length:Int)=some ys)(hx:ay E.N G x (tV (kB r.sz l cap lo.toNat ys.length)))(hd:Nat.blt d E.N.n=true)(k: ∀b,(b=true→ys=[])→RG E ops Q rest O ((d,tD rB b)::G)):RG E ops Q (⟨some d,.binOp .eql t x (.const (.slice none 0 0)) yt,ty,pos,after,none⟩::rest) O G:= .of rfl fun a w S st=>by
 have h1:a.eval x=kB r.sz l cap lo.toNat ys.length:=hx S a st.facts
 obtain⟨⟨cells,hraw,_⟩,_⟩:=st.own.mem _ hm
 have hcn:a.eval (.const (.slice none 0 0))= .slice none 0 0:=rfl
 cases l with
 |none=>
  have hx0:xs=[]:=sB hraw.1
  have hy0:ys=[]:=by
   obtain⟨lo',m,_,_,_,_,rfl⟩:=d3 hs
   subst hx0;simp
  have h3:(Op.equal t (.slice none 0 0) (.slice none 0 0)).run E.P w= .ok true w:=tt fun d=>by
   simp [Op.equalIn,mV ht]
  have hrun:(execOp a.eval ⟨some d,.binOp .eql t x (.const (.slice none 0 0)) yt,ty,pos,after,none⟩).run E.P w= .ok (.value (.bool true)) w:=by
   simp [execOp,h1,kB,hcn,eqGuard,binOp,h3]
  refine⟨fun c h=>(by cases h),?_⟩
  rw [hrun]
  exact k true (fun _=>hy0) _ _ S (st.step (eX _ _ _) st.sat hd (fy.2 rfl))
 |some b=>
  obtain⟨ad,hv⟩: ∃ad,kB r.sz (some b) cap lo.toNat ys.length= .slice (some ad) ys.length (cap-lo.toNat):=⟨_,rfl⟩
  have h3:(Op.equal t (.slice (some ad) ys.length (cap-lo.toNat)) (.slice none 0 0)).run E.P w= .ok false w:=tt fun d=>by
   simp [Op.equalIn,mV ht]
  have hrun:(execOp a.eval ⟨some d,.binOp .eql t x (.const (.slice none 0 0)) yt,ty,pos,after,none⟩).run E.P w= .ok (.value (.bool false)) w:=by
   simp [execOp,h1,hv,hcn,eqGuard,binOp,h3]
  refine⟨fun c h=>(by cases h),?_⟩
  rw [hrun]
  exact k false (fun e=>(by cases e)) _ _ S (st.step (eX _ _ _) st.sat hd (fy.2 rfl))
theorem DU{t' :TypeId}{l l2:Option Nat}{cap2:Nat}{us:List α}{y:Operand}(ti:TI E.P T sz bytes agg z)(hsz:r.sz=sz)(hz:Nat.beq z.length sz=true)(h0:Nat.blt 0 sz=true)(h128:Nat.ble bytes 2048=true)(ht:E.P.underlying t=some (.slice T))(ht' :t' =t)(hd:Nat.blt d E.N.n=true)(hx:ay E.N G x (tV (ai l cap n)))(hm:iZ mm r U l2 cap2 us∈cu r T l cap xs::O)(hs:cz us lo (us.length:Int)=some ys)(hy:ay E.N G y (tV (kB r.sz l2 cap2 lo.toNat ys.length)))(happ:nS xs ys=some zs)(k: ∀l' cap',RG E ops Q rest (cu r T l' cap' zs::O) ((d,tV (ai l' cap' zs.length))::G))(hn:n=xs.length:=by rfl):
  RG E ops Q (⟨some d,.call ⟨.builtin .append,#[x,y],#[t,t']⟩,ty,pos,after,none⟩::rest) (cu r T l cap xs::O) G:=by
 subst ht'
 exact s4 (u:=fun cap' l' =>tV (ai l' cap' zs.length)) ti hsz hz h0 h128 ht hd hx (fun a w S st=>by
  have h1:a.eval y=kB r.sz l2 cap2 lo.toNat ys.length:=hy S a st.facts
  rw [h1]
  exact By ht (st.own.mem _ hm).1 hs) happ (fun _ _ _ _ _=>rfl) k hn
end

abbrev O9(α X:Type):=(σ:Type)→(α→σ→Option (Bool×σ))→σ→Option (σ×X)
def Kp(P:Program){α X:Type}(args:α→List Ty)(it:O9 α X)(Ob:X→OI→List OE)(fid:FuncId)(cap:Array Value)(fp:Nat→Prop)(w:World)(S:SH):Prop:=
 ∀(σ:Type) (y:α→σ→Option (Bool×σ)) (s:σ) (R:σ×X),it σ y s=some R→ ∀I yv,Mt P args y I yv→ ∀e,I s e→e.p w S→(∀k,e.fp k→ ¬fp k)→
  Calls P fid (#[yv]++cap) w fun en w' => ∃e' S' j,(∃v,en= .returned v)∧I R.1 e' ∧eS (fun k=>e.fp k∨fp k) w S w' S' ∧ga w' S' ∧e'.p w' S' ∧dd 0 mR w' S' (Ob R.2 j)∧(∀k,e'.fp k∨CP (Ob R.2 j) k→(e.fp k∨fp k)∨w.heap.size≤k)∧ ∀k,e'.fp k→ ¬CP (Ob R.2 j) k
def Lx(P:Program){α X:Type}(args:α→List Ty)(it:O9 α X)(Ob:X→OI→List OE)(v:Value)(fp:Nat→Prop):OE where
 fp:=fp
 p:=fun w S=>(∀k,fp k→k<w.heap.size)∧ ∃fid cap,v= .func (.func fid) #[] cap∧aj P fid=true∧
  ∀C w' S',eS C w S w' S' →(∀k,fp k→ ¬C k)→ga w' S' →Kp P args it Ob fid cap fp w' S'
 here:=fun h k hk=>h.1 k hk
 kept:=by
  rintro C w w' S S' ⟨h1,fid,cap,h2,h3,h4⟩ k hC
  refine⟨fun b hb=>y8 (h1 b hb) k.size,fid,cap,h2,h3,fun C' w'' S'' k' hC' hs=>?_⟩;exact h4 (fun b=>C b∨C' b) w'' S'' ((k.more fun b hb=> .inl hb).trans (k'.more fun b hb=> .inr hb)) (fun b hb h=>h.elim (hC b hb) (hC' b hb)) hs
def M0:Unit→OI→List OE:=fun _ _=>[]
def itU{α:Type}(it:It α):O9 α Unit:=fun σ y s=>(it σ y s).map fun r=>(r,())
variable{args:α→List Ty}{fp:Nat→Prop}{s:ji}
theorem M6{it:It α}(h:(Ky P args it v fp).p w S):(Lx P args (itU it) M0 v fp).p w S:=by
 obtain⟨h1,fid,cap,h2,h3,h4⟩:=h
 refine⟨h1,fid,cap,h2,h3,fun C w' S' k hC hs σ y s R hit I yv hy e he hep hap=>?_⟩
 unfold itU at hit
 cases hq:it σ y s with
 |none=>rw [hq]at hit;cases hit
 |some s' =>
  rw [hq]at hit
  obtain rfl:(s',())=R:=by simpa using hit
  refine(h4 C w' S' k hC hs σ y s s' hq I yv hy e he hep hap).mono ?_
  rintro en w2 ⟨e',S2,g1,g2,g3,g4,g5,g6⟩
  exact⟨e',S2,rx,g1,g2,g3,g4,g5,trivial,fun k hk=>hk.elim (fun h=>(g6 k h).imp .inl id) (fun⟨_,h,_⟩=>by cases h),fun k _ ⟨_,h,_⟩=>by cases h⟩
section
variable{it:It α}
theorem Mn(h:CG E Q c (Lx P args (itU it) M0 v fp::O) G):CG E Q c (Ky P args it v fp::O) G:=fun a w S st=>h a w S (st.own_map fun⟨⟨g1,g2⟩,g3,g4⟩=>⟨⟨M6 g1,g2⟩,g3,g4⟩)
end

section
variable{ty:TypeId}
end

def oN(l:Nat)(r:Loop)(st:LoopState)(pd:Option Code):OE where
 fp:=fun k=>k=l
 p:=fun w S=>S l=none∧w.heap[l]? =some (.loop {r with state:=st,pending:=pd})
 here:=by
  intro w S h k hk
  subst hk
  exact(nW.1 h.2).1
 kept:=by
  intro C w w' S S' h k hC
  have hlt:=(nW.1 h.2).1
  exact⟨by rw [k.old l hlt (hC l rfl)];exact h.1,by rw [k.heap l hlt (hC l rfl)];exact h.2⟩
def Kt(j:Option Nat):LoopState:=if j.isNone then .ready else .done
def Ll(E:En)(l:Nat)(rec:Loop){σ ι:Type}(Oi:ι→List OE)(dat:ι→σ)(jc:Nat→Code)(r:Option Nat×σ):Ending→World→Prop:=fun en w' =>
 ∃i S',en= .returned (.bool r.1.isNone)∧dat i=r.2∧eS E.B E.w0 E.S0 w' S' ∧ga w' S' ∧dd E.base E.B w' S' (oN l rec (Kt r.1) (r.1.map jc)::Oi i)
def zT{α σ:Type}(f:α→σ→Option (Option Nat×σ)):α→Option Nat×σ→Option (Bool×(Option Nat×σ)):=fun x s=>
 match s.1 with
 |some _=>none
 |none=>(f x s.2).map fun r=>(r.1.isNone,r)
variable{X:Type}{Ob:X→OI→List OE}{rec:Loop}{ι:Type}
section
theorem xw{l:Nat}{st st' :LoopState}{pd pd' :Option Code}{O:List OE}(h:dd base B w S (oN l rec st pd::O))(hs:ga w S):
  eS (fun k=>k=l) w S (w.putObj l (.loop {rec with state:=st',pending:=pd' })) S∧ga (w.putObj l (.loop {rec with state:=st',pending:=pd' })) S∧dd base B (w.putObj l (.loop {rec with state:=st',pending:=pd' })) S (oN l rec st' pd' ::O):=by
 obtain⟨hno,hl⟩:=h.1.1
 have hlt:=(nW.1 hl).1
 have hext:eS (fun k=>k=l) w S (w.putObj l (.loop {rec with state:=st',pending:=pd' })) S:=⟨rfl,rfl,rfl,fQ _,by simp,fun k _ hk=>World.putObj_heap_other hk,SH.le_refl _,fun _ _ _=>rfl⟩
 refine⟨hext,hs.same fun k o hk=>?_,⟨⟨hno,World.putObj_heap_same hlt⟩,h.1.2⟩,h.2.1,h.2.2.ext hext fun g hg k hk hkl=>h.2.1 g hg k hkl hk⟩
 have hne:k≠l:=fun e=>by subst e;rw [hno]at hk;cases hk
 exact World.putObj_heap_other hne
theorem GK{l:Nat}{body:Code}{R:Ending→World→Prop}(h:CG E (roundPost E.P l R) body (oN l rec .busy none::O) G):AT E (Kj E l body R) .normal (oN l rec .ready none::O) G:=fun a w S st=>by
 obtain⟨h1,h2,h3⟩:=xw (st' := .busy) (pd' :=none) st.own st.sat
 obtain⟨_,hl⟩:=st.own.1.1
 exact⟨_,run_beginRound hl rfl,h a _ S ⟨st.ext.step h1 (fun c hc=>st.own.1.2 c hc),h2,h3,st.facts⟩⟩
theorem Bf{l:Nat}{σ:Type}{Oi:ι→List OE}{dat:ι→σ}{jc:Nat→Code}{s2:σ}(q:Nat)(hq:jc q= .ret)(i:ι)(hi:dat i=s2)(hO:O=Oi i):AT E (roundPost E.P l (Ll E l rec Oi dat jc (some q,s2))) .ret (oN l rec .busy none::O) G:=fun a w S st=>by
 subst hO
 obtain⟨h1,h2,h3⟩:=xw (st' := .done) (pd' :=some .ret) st.own st.sat
 obtain⟨_,hl⟩:=st.own.1.1
 exact⟨_,_,run_endRound (some .ret) hl,i,S,rfl,hi,st.ext.step h1 (fun c hc=>st.own.1.2 c hc),h2,by rw [wL,hq];exact h3⟩
theorem GD{it:O9 α X}{σ:Type}(Oi:ι→List OE)(dat:ι→σ)(jc:Nat→Code){f:α→σ→Option (Option Nat×σ)}{R:(Option Nat×σ)×X}{g:Operand}{ps:List Nat}{assign body:Code}(hr:E.r=none)(hg:ay E.N G g (tV v))(i0:ι)(hO:O=Lx E.P args it Ob v fp::Oi i0)(hit:it (Option Nat×σ) (zT f) (none,dat i0)=some R)(hps: ∀x,ps.length=(args x).length)(hpn:(ps.all fun d=>Nat.blt d E.N.n)=true)(hbody: ∀(i:ι) (x:α) (r:Option Nat×σ),f x (dat i)=some r→ ∀(l:Nat) (rec:Loop) (w1:World) (S1:SH) (B1:Nat→Prop),
   CG ⟨E.P,⟨E.N.n,[]⟩,B1,w1,S1,some l⟩ (Kj ⟨E.P,⟨E.N.n,[]⟩,B1,w1,S1,some l⟩ l body (Ll ⟨E.P,⟨E.N.n,[]⟩,B1,w1,S1,some l⟩ l rec Oi dat jc r)) assign (oN l rec .ready none::Oi i) (zh ps (args x) G))(k: ∀i' j,dat i' =R.1.2→ ∀b,(R.1.1=none→AT ⟨E.P,⟨E.N.n,q4 b::E.N.ds⟩,E.B,E.w0,E.S0,E.r⟩ Q .normal (Bi b::(Ob R.2 j++Oi i')) G)∧
   (∀q,R.1.1=some q→CG ⟨E.P,⟨E.N.n,q4 b::E.N.ds⟩,E.B,E.w0,E.S0,E.r⟩ Q (jc q) (Bi b::(Ob R.2 j++Oi i')) G)):CG E Q (.rangeFunc g ps.toArray assign body) O G:=fun a w S st=>by
 subst hO
 refine wpIn_rangeFunc fun fn _=>?_
 have hr0:(fw E.r).round=none:=hr
 have hfw:fw E.r=fw none:=by rw [hr]
 rw [hr0]
 obtain⟨rec,hrec⟩: ∃rec:Loop,rec={state:= .ready,pending:=none,fn,tmps:=a.tmps,params:=ps.toArray,assign,body,defers:=w.heap.size}:=⟨_,rfl⟩
 obtain⟨x1,x2,x3⟩:=dZ (w:=w) (.deferred (some [])) st.sat
 obtain⟨y1,y2,y3⟩:=dZ (w:=w.alloc (.deferred (some []))) (.loop rec) x2
 obtain⟨W1,hW1⟩: ∃W1,(w.alloc (.deferred (some []))).alloc (.loop rec)=W1:=⟨_,rfl⟩
 rw [hW1]at y1 y2
 have hsz:(w.alloc (.deferred (some []))).heap.size=w.heap.size+1:=by simp
 rw [hsz]at y3
 have hext:eS mR w S W1 S:=x1.trans y1
 have hL1:W1.heap[w.heap.size+1]? =some (.loop rec):=by
  rw [←hW1];have:=World.alloc_heap_new (w.alloc (.deferred (some []))) (.loop rec);rwa [hsz]at this
 have hK1:W1.heap[w.heap.size]? =some (.deferred (some [])):=by
  rw [y1.heap w.heap.size (by omega) (fun h=>h)];exact World.alloc_heap_new w _
 have hW1s:W1.heap.size=w.heap.size+2:=by rw [←hW1];simp
 have hg' :a.eval g=v:=hg S a st.facts
 obtain⟨hit1,hap,hoi⟩:=st.own
 obtain⟨⟨hfp,gf,cap,hv,hcal,hcall⟩,hbase⟩:=hit1
 have hbl:=st.base_le
 have hoi1:dd E.base E.B W1 S (Oi i0):=hoi.ext0 hext
 have hlt: ∀f∈Oi i0,∀k,f.fp k→k<w.heap.size:=fun f hf k hk=>f.here (dd.mem hoi f hf).1 k hk
 refine⟨w.heap.size+1,[q4 w.heap.size],W1,{target:= .fn (.func gf) cap,args:= #[.func (.yield (w.heap.size+1)) #[] #[]]},W1,gf,
  #[.func (.yield (w.heap.size+1)) #[] #[]]++cap,W1,?_,?_,fun _ _=>trivial,?_,fun h=>(by cases h),?_⟩
 ·rw [←hW1,hrec];exact run_enterLoop_outer _ _ _ _ _
 ·simp only [resolve,hg',hv]
  simp [go_sem]
 ·simp [invoke,go_sem,ec hcal]
 rw [hfw]
 refine j9.2 ?_
 have hyld:Mt E.P args (zT f) (fun s e=> ∃i,dat i=s.2∧e=mT S (oN (w.heap.size+1) rec (Kt s.1) (s.1.map jc)::Oi i)) (.func (.yield (w.heap.size+1)) #[] #[]):=by
  refine⟨_,rfl,?_⟩
  rintro x ⟨j0,s⟩ r hy e ⟨i,hi,rfl⟩ w2 S2 vs hs2 ⟨hle,hown⟩ hvs
  cases j0 with
  |some q=>unfold zT at hy;cases hy
  |none=>
  have hi' :dat i=s:=hi
  subst hi'
  obtain⟨r2,hs2',rfl⟩: ∃r2,f x (dat i)=some r2∧r=(r2.1.isNone,r2):=by
   unfold zT at hy
   cases hf:f x (dat i)with
   |none=>simp only [hf]at hy;cases hy
   |some s2=>simp only [hf]at hy;exact⟨s2,rfl,by simpa using hy.symm⟩
  have hl2:=hown.1.1.2
  have hvl:=hvs.length
  have hyr:=run_yield (P:=E.P) (args:=vs.toArray) hl2 (by rw [hrec];simp [hps x,hvl])
  refine⟨_,_,_,_,hyr,roundIn_of_wpIn trivial ?_⟩
  have hown' :dd 0 mR w2 S2 (oN (w.heap.size+1) rec .ready none::Oi i):=hown
  have:=hbody i x r2 hs2' (w.heap.size+1) rec w2 S2 (fun k=> ∃f∈oN (w.heap.size+1) rec .ready none::Oi i,f.fp k)
   {tmps:=(ps.zip vs).foldl (fun t (p:Nat×Value)=>t.setIfInBounds p.1 p.2) a.tmps,defers:=[]} w2 S2
   ⟨eX _ _ _,hs2,ky hown' fun f hf k hk=> .inr ⟨f,hf,hk⟩,s0 ps (args x) vs ⟨a.tmps,[]⟩ G (hps x) hvs hpn ⟨st.facts.size,rfl,fun j t h=>t.mono hle (st.facts.at_ j t h)⟩⟩
  rw [hrec]
  rw [hrec]at this
  rw [qx]
  refine wpIn_mono this ?_
  intro e a3 w3 hp
  cases e with
  |normal=>
   obtain⟨w4,hb4,hp4⟩:=hp
   refine⟨w4,hb4,wpIn_mono hp4 ?_⟩
   have hR: ∀en w',Ll ⟨E.P,⟨E.N.n,[]⟩,fun k=> ∃f∈oN (w.heap.size+1) rec .ready none::Oi i,f.fp k,w2,S2,some (w.heap.size+1)⟩ (w.heap.size+1) rec Oi dat jc r2 en w' →
     ∃e' S',en= .returned (.bool r2.1.isNone)∧(∃i',dat i' =r2.2∧e' =mT S (oN (w.heap.size+1) rec (Kt r2.1) (r2.1.map jc)::Oi i'))∧eS (mT S (oN (w.heap.size+1) rec .ready none::Oi i)).fp w2 S2 w' S' ∧ga w' S' ∧e'.p w' S' ∧ ∀k,e'.fp k→(mT S (oN (w.heap.size+1) rec .ready none::Oi i)).fp k∨w2.heap.size≤k:=by
    rintro en w' ⟨i',S',h1,h2,h3,h4,h5⟩
    exact⟨_,S',h1,⟨i',h2,rfl⟩,h3,h4,⟨SH.le_trans hle h3.keep,h5.weak⟩,fun k ⟨f,hf,hk⟩=>((dd.mem h5 f hf).2 k hk).symm⟩
   rw [hrec]at hR
   intro e5 a5 w5 hp5
   cases e5<;>simp only [roundPost]at hp5 ⊢
   case normal=>obtain⟨v5,w6,h1,h2⟩:=hp5;exact⟨v5,w6,h1,hR _ _ h2⟩
   case ret=>obtain⟨v5,w6,h1,h2⟩:=hp5;exact⟨v5,w6,h1,hR _ _ h2⟩
   case exit=>obtain⟨v5,w6,h1,h2⟩:=hp5;exact⟨v5,w6,h1,hR _ _ h2⟩
   case goto=>obtain⟨v5,w6,h1,h2⟩:=hp5;exact⟨v5,w6,h1,hR _ _ h2⟩
  |_=>exact hp
 have hrecE:W1.heap[w.heap.size+1]? =some (.loop {rec with state:= .ready,pending:=none}):=by rw [hL1,hrec]
 have he0:(mT S (oN (w.heap.size+1) rec .ready none::Oi i0)).p W1 S:=⟨SH.le_refl _,⟨⟨y3,hrecE⟩,fun _ _=> .inl (jM _)⟩,fun f hf k hk hfk=>by have:=hlt f hf k hfk;have hk' :k=w.heap.size+1:=hk;omega,hoi1.weak⟩
 have hap0: ∀k,(mT S (oN (w.heap.size+1) rec .ready none::Oi i0)).fp k→ ¬fp k:=by
  rintro k ⟨f,hf,hk⟩ hfk
  rcases ia.1 hf with rfl|hf
  ·have:=hfp k hfk;have hk' :k=w.heap.size+1:=hk;omega
  ·exact hap f hf k hfk hk
 refine(hcall mR W1 S hext (fun _ _ h=>h) y2 _ (zT f) (none,dat i0) R hit _ _ hyld _ ⟨i0,rfl,rfl⟩ he0 hap0).mono ?_
 rintro en w2 ⟨e',S2,j,⟨vr,rfl⟩,⟨i',hi',rfl⟩,hx2,hs2,⟨hle2,hown2⟩,hob,hnew,hapo⟩
 have hl2:=hown2.1.1.2
 have hnb: ∀k,(Bi w.heap.size).fp k→ ¬((mT S (oN (w.heap.size+1) rec .ready none::Oi i0)).fp k∨fp k):=by
  rintro k hk h
  have hk' :k=w.heap.size:=hk
  subst hk'
  rcases h with⟨f,hf,hfk⟩|h
  ·rcases ia.1 hf with rfl|hf
   ·have hk' :w.heap.size=w.heap.size+1:=hfk;omega
   ·have:=hlt f hf _ hfk;omega
  ·have:=hfp _ h;omega
 have hBin: ∀k,((mT S (oN (w.heap.size+1) rec .ready none::Oi i0)).fp k∨fp k)→E.w0.heap.size≤k∨E.B k:=by
  rintro k (⟨f,hf,hk⟩|h)
  ·rcases ia.1 hf with rfl|hf
   ·left;have hk' :k=w.heap.size+1:=hk;have:E.w0.heap.size≤w.heap.size:=hbl;omega
   ·exact(dd.mem hoi f hf).2 k hk
  ·exact hbase k h
 have hBn: ∀k,((mT S (oN (w.heap.size+1) rec (Kt R.1.1) (R.1.1.map jc)::Oi i')).fp k∨CP (Ob R.2 j) k)→E.base≤k∨E.B k:=fun k hk=>(hnew k hk).elim (hBin k) (fun h=> .inl (by have h1:E.base≤w.heap.size:=hbl;have h2:W1.heap.size≤k:=h;omega))
 have hb2:dd E.base E.B w2 S2 (oN (w.heap.size+1) rec (Kt R.1.1) (R.1.1.map jc)::(Ob R.2 j++Oi i')):=by
  obtain⟨q1,q2,q3⟩:=hown2
  refine dd.cons ⟨q1.1,fun k hk=>hBn k (.inl ⟨_,lI ..,hk⟩)⟩ (fun f hf=>?_) (um (ky hob fun f hf k hk=>hBn k (.inr ⟨f,hf,hk⟩)) (ky q3 fun f hf k hk=>hBn k (.inl ⟨f,ly _ hf,hk⟩)) fun e he f hf k hek hfk=>hapo k ⟨f,ly _ hf,hfk⟩ ⟨e,he,hek⟩)
  rcases yy.1 hf with hf|hf
  ·exact fun k hk hfk=>hapo k ⟨_,lI ..,hk⟩ ⟨f,hf,hfk⟩
  ·exact q2 f hf
 have hend:Kt R.1.1≠ .busy:=by unfold Kt;split<;>simp
 obtain⟨z1,z2,z3⟩:=xw (st' := .exhausted) (pd' :=R.1.1.map jc) hb2 hs2
 have hdf:(Bi w.heap.size).p W1 S:=⟨x3,hK1⟩
 have Ms:(Bi w.heap.size).p w2 S2:=(Bi w.heap.size).kept hdf hx2 hnb
 have hd3:=(Bi w.heap.size).kept Ms z1 (fun k hk hkl=>by have h1:k=w.heap.size:=hk;have h2:k=w.heap.size+1:=hkl;omega)
 have stE:St ⟨E.P,⟨E.N.n,q4 w.heap.size::E.N.ds⟩,E.B,E.w0,E.S0,E.r⟩ (Bi w.heap.size::(Ob R.2 j++Oi i')) G {a with defers:=[q4 w.heap.size]++a.defers} (w2.putObj (w.heap.size+1) (.loop {rec with state:= .exhausted,pending:=R.1.1.map jc})) S2:=by
  refine⟨((st.ext.step0 hext).step hx2 hBin).step z1 (fun c hc=>z3.1.2 c hc),z2,?_,?_⟩
  ·refine dd.cons ⟨hd3,fun k hk=> .inl (by have h1:k=w.heap.size:=hk;rw [h1];exact hbl)⟩ (fun f hf k hk hfk=>?_) z3.2.2
   have h1:k=w.heap.size:=hk
   have h2:((mT S (oN (w.heap.size+1) rec (Kt R.1.1) (R.1.1.map jc)::Oi i')).fp k∨CP (Ob R.2 j) k):=by
    rcases yy.1 hf with hf|hf
    ·exact .inr ⟨f,hf,hfk⟩
    ·exact .inl ⟨f,ly _ hf,hfk⟩
   rcases hnew k h2 with h|h
   ·exact hnb k hk h
   ·omega
  ·refine⟨st.facts.size,?_,fun j t hj=>t.mono (SH.le_trans (SH.le_refl S) hle2) (st.facts.at_ j t hj)⟩
   show q4 w.heap.size::a.defers=_
   rw [st.facts.defers]
 obtain⟨k1,k2⟩:=k i' j hi' w.heap.size
 refine⟨_,_,run_endLoop hl2 hend,?_⟩
 cases hR1:R.1.1 with
 |none=>
  rw [hR1]at stE
  exact k1 hR1 _ _ S2 stE
 |some q=>
  rw [hR1]at stE
  have:=k2 q hR1 _ _ S2 stE
  show(jc q).wpIn (fw none) 0 E.P Q _ _
  have hE:fw (⟨E.P,⟨E.N.n,q4 w.heap.size::E.N.ds⟩,E.B,E.w0,E.S0,E.r⟩:En).r=fw none:=hfw
  rw [hE]at this
  exact this
end

def F3(l:List (Option Nat×Nat)):OI:={h:=fun n=>l.getD n (none,0)}
def gV(P:Program){A X ρ:Type}(args:A→List Ty)(Ob:X→OI→List OE)(res:ρ→Ty)(f:X→A→Option (ρ×X)):Ty where
 p:=fun S v=> ∀x y R,f x y=some R→ ∃fid fst cap,v= .func (.func fid) fst cap∧aj P fid=true∧ ∀i w S' vs,ja S S' →ga w S' →qp S' (args y) vs→dd 0 mR w S' (Ob x i)→
  Calls P fid (fst++vs.toArray++cap) w fun en w' => ∃j v S'',en= .returned v∧(res R.1).p S'' v∧eS (CP (Ob x i)) w S' w' S'' ∧ga w' S'' ∧dd 0 mR w' S'' (Ob R.2 j)∧ ∀k,CP (Ob R.2 j) k→CP (Ob x i) k∨w.heap.size≤k
 mono:=fun h k x y R hf=>by
  obtain⟨fid,fst,cap,e,hc,hs⟩:=k x y R hf
  exact⟨fid,fst,cap,e,hc,fun i w S' vs hle=>hs i w S' vs (SH.le_trans h hle)⟩
variable{A ρ:Type}{res:ρ→Ty}
theorem Fx{args:A→List Ty}:(gV P args Ob res (fun _ _=>none)).p S v:=fun _ _ _ h=>by cases h
section
section
variable{ty:TypeId}
theorem kU{args:A→List Ty}{f:X→A→Option (ρ×X)}{fid:FuncId}(hc:aj E.P fid=true)(hs: ∀x y R,f x y=some R→ ∀i,fT E.P fid (args y) (Ob x i) (fun _:OI=>res R.1) (fun j=>Ob R.2 j)):
  ay E.N G (.func fid) (gV E.P args Ob res f):=fun S a _ x y R hR=>
 ⟨fid,#[],#[],rfl,hc,fun i w' S' vs _ hsat hv ho=>by
  rw [show(#[]++vs.toArray++ #[]:Array Value)=vs.toArray from by simp]
  exact hs x y R hR i w' S' vs hsat hv ho⟩
end
theorem A3{args:A→List Ty}{f:X→A→Option (ρ×X)}{x:X}{y:A}{R:ρ×X}{i:OI}{ty:TypeId}{fo:Operand}{xs:List Operand}(Or:List OE)(hO:O=Ob x i++Or)(hf:ay E.N G fo (gV E.P args Ob res f))(hR:f x y=some R)(hx:iB E.N G xs (args y))(hpost: ∀j,Ob R.2 j++Or=post j):
  EffOK E O G ⟨some d,.call ⟨.value fo,xs.toArray,ats⟩,ty,pos,after,g⟩ post (fun _=>res R.1):=fun a w S hsat ho hF hb=>by
 subst hO
 obtain rfl:(fun j=>Ob R.2 j++Or)=post:=funext hpost
 obtain⟨fid,fst,cap,e,hc,hs⟩:=hf S a hF x y R hR
 have hr:(execOp a.eval ⟨some d,.call ⟨.value fo,xs.toArray,ats⟩,ty,pos,after,g⟩).run E.P w= .ok (.enter fid (fst++(xs.map a.eval).toArray++cap)) w:=by
  simp [execOp,resolve,e,Deferred.ofValue,invoke,ec hc]
 refine⟨fun c h=>(by cases h),?_⟩
 rw [hr]
 exact(hs i w S _ (SH.le_refl _) hsat (hx.tys hF) (mn ho).1.weak).mono fun en w' ⟨j,v,S',he,hv,h1,h2,h3,h4⟩=>⟨_,he,v,S',j,rfl,h1.more fun b ⟨f,hf,hb⟩=>⟨f,Fh _ hf,hb⟩,h2,dd.turn ho hb h1 h3 h4,hv⟩
section
variable{N:Nat}{w0:World}{S0:SH}{fn:Func}{O1:List OE}{t:ι→Ty}{O2:ι→List OE}
end
end
variable{et kt:TypeId}{kv:κ→Value}{os:List (Option Nat×Nat)}
section
variable [DecidableEq κ]{V:MV β}{k:κ}{i v:Operand}{dst:Option Nat}{ty:TypeId}
theorem fX{γ:β→Ty}{y:β}(hm:E.P.underlying t=some (.map kt et))(hk:Fc E.P kt kv)(hx:ay E.N G x (tV (lj b)))(hi:zX E.N G i (kv k))(hv:ay E.N G v (γ y))
  (h: ∀os',RG E ops Q rest (xG (Hn γ) kv b none os' (fA m k y)::O) G):
  RG E ops Q (⟨none,.insert t x i v,ty,pos,after,none⟩::rest) (xG (Hn γ) kv b none os m::O) G:= .of rfl fun a w S st=>by
 have h1:a.eval x=lj b:=hx S a st.facts
 have h2:a.eval i=kv k:=hi S a st.facts
 have h3:(γ y).p S (a.eval v):=hv S a st.facts
 obtain⟨⟨hp,hfp⟩,hap,hO⟩:=st.own
 obtain⟨hno,hnb,es,clock,e3,e4,hst⟩:=hp
 obtain⟨q,hq,hdk,hinj⟩:=hk
 obtain⟨os1,p1,p2,_⟩:=s3 hdk hinj (k:=k) 0 e4
 have hnb1: ∀o∈os1,o.1≠some b:=fun o ho=>by
  rcases p1 o ho with h|h
  ·exact hnb o h
  ·rw [h];exact fun e=>by cases e
 obtain⟨w',os',r,x1,x2,x3,x4⟩:=F6 (V:=Hn γ) (E:=E) (y:=y) (o:=(none,0)) (val:=a.eval v) st.sat hm ⟨q,hq,hdk,hinj⟩ ⟨hno,hnb1,es,clock,e3,p2,hst⟩ ⟨rfl,h3⟩ (fun e=>by cases e) (fun _ _ _ e=>by cases e)
 have hrun:(execOp a.eval ⟨none,.insert t x i v,ty,pos,after,none⟩).run E.P w= .ok .skip w' :=by simp [execOp,h1,h2,r]
 refine⟨fun c h=>(by cases h),?_⟩
 rw [hrun]
 have hfp' : ∀j,(xG (Hn γ) kv b none os' (fA m k y)).fp j→(xG (Hn γ) kv b none os m).fp j:=fun j hj=>by
  rcases x4 j hj with(h|⟨o,ho,e⟩)|e
  ·exact .inl h
  ·rcases p1 o ho with h|h
   ·exact .inr ⟨o,h,e⟩
   ·rw [h]at e;cases e
  ·cases e
 exact h os' _ _ S ⟨st.ext.step x1 (fun c hc=>hfp c (.inl hc)),x2,⟨⟨x3,fun j hj=>hfp j (hfp' j hj)⟩,fun f hf j hj=>hap f hf j (hfp' j hj),hO.ext x1 fun f hf j hj hjb=>hap f hf j (.inl hjb) hj⟩,st.facts⟩
end

def o7{κ β:Type}(γ:β→Ty)(kv:κ→Value)(S:SH):List MapEntry→List (κ×β)→Prop
 |[],[]=>True
 |e::es,q::m=>e.key=kv q.1∧(γ q.2).p S e.val∧(∀p∈m,p.1≠q.1)∧o7 γ kv S es m
 |_,_=>False
theorem qm{κ β:Type}{γ:β→Ty}{kv:κ→Value}{S S' :SH}(h:ja S S'): ∀{es:List MapEntry} {m:List (κ×β)},o7 γ kv S es m→o7 γ kv S' es m
 |[],[],_=>trivial
 |_::_,q::_,⟨h1,h2,h3,h4⟩=>⟨h1,(γ q.2).mono h h2,h3,qm h h4⟩
theorem HN{κ β:Type} [DecidableEq κ]{γ:β→Ty}{kv:κ→Value}{w:World}{S:SH}: ∀{es:List MapEntry} {os:List (Option Nat×Nat)} {m:List (κ×β)},qG (Hn γ) kv w S none es os m→o7 γ kv S es m
 |[],[],[],_=>trivial
 |_::_,_::_,_::_,⟨h1,h2,_,h4,h5⟩=>⟨h1,by rw [di (by simp)]at h2;exact h2.2,h4,HN h5⟩
theorem Ia{κ β:Type} [DecidableEq κ]{γ:β→Ty}{kv:κ→Value}{w:World}{S:SH}: ∀{es:List MapEntry} {m:List (κ×β)},o7 γ kv S es m→qG (Hn γ) kv w S none es (m.map fun _=>(none,0)) m
 |[],[],_=>trivial
 |_::_,_::_,⟨h1,h2,h3,h4⟩=>⟨h1,by rw [di (by simp)];exact⟨rfl,h2⟩,fun _ _ _ h=>(by cases h),h3,Ia h4⟩
def Ii{κ β:Type}(γ:β→Ty)(kv:κ→Value)(m:List (κ×β)):Ty where
 p:=fun S v=> ∃b es clock,v=lj b∧S b=some (.map es clock)∧o7 γ kv S es.toList m
 mono:=fun h ⟨b,es,cl,e,h1,h2⟩=>by
  obtain⟨o',h3,h4⟩:=h b _ h1
  have h5:o' = .map es cl:=h4
  subst h5
  exact⟨b,es,cl,e,h3,qm h h2⟩
section
variable [DecidableEq κ]{k:κ}{i:Operand}{γ:β→Ty}{dst:Option Nat}{ty:TypeId}
theorem vz{z:β}{zv:Value}(hm:E.P.underlying t=some (.map kt et))(hk:Fc E.P kt kv)(hz:ZV E.P et zv)(hzt: ∀S,(γ z).p S zv)(hx:ay E.N G x (Ii γ kv m))(hi:zX E.N G i (kv k)):
  bU E O G ⟨dst,.lookup t x i false,ty,pos,after,g⟩ (γ ((kE m k).getD z)):= .of_pure fun a w S hs ho hf=>by
 obtain⟨b,es,clock,h1,h3,h4⟩:=hx S a hf
 obtain⟨o',h5,h6⟩:=hs b _ h3
 have h7:o' = .map es clock:=h6
 subst h7
 obtain⟨q,hq,hd,hinj⟩:=hk
 have h2:a.eval i=kv k:=hi S a hf
 obtain⟨_,_,_,h8⟩:=s3 hd hinj (k:=k) 0 (Ia (w:=w) h4)
 rcases h8 with⟨g1,g2⟩|⟨y,o,e,j,g1,g2,g3,g4,g5⟩
 ·refine⟨zv,by simp [execOp,h1,h2,se hm hq (hd k) h5 hz g2],by rw [g1];exact hzt S⟩
 ·refine⟨e.val,by simp [execOp,h1,h2,se hm hq (hd k) h5 hz g4],by rw [g1];exact g3.2⟩
theorem St.settleMp{j:Nat}(h:St E (xG (Hn γ) kv b none os m::O) G a w S)(hk:look G j=some (tV (lj b))): ∃S',St E O ((j,Ii γ kv m)::G) a w S' :=by
 obtain⟨⟨hn,_,es,clock,h3,h4,_⟩,_⟩:=h.own.1
 obtain⟨h8,hle,_,_⟩:=sQ h (.inl rfl) h3 (oD _) hn
 have hv:a.tmps.getD j undef=lj b:=h.facts.at_ j _ hk
 exact⟨_,h8.cons ⟨b,es,clock,hv,by simp [SH.set],qm hle (HN h4)⟩⟩
theorem vS{e:Exit}(j:Nat)(hk:look G j=some (tV (lj b)))(h:AT E Q e O ((j,Ii γ kv m)::G)):AT E Q e (xG (Hn γ) kv b none os m::O) G:=
 fun a w _ st=>let⟨S',st'⟩:=st.settleMp hk;h a w S' st'
end
def yH(P:Program){α β:Type}(args:α→List Ty)(res:β→Ty)(f:α→Option β):Ty where
 p:=fun S v=> ∀x y,f x=some y→ ∃fid cap,v= .func (.func fid) #[] cap∧aj P fid=true∧ ∀w S' vs,ja S S' →ga w S' →qp S' (args x) vs→
  Calls P fid (vs.toArray++cap) w fun e w' => ∃v S'',e= .returned v∧eS mR w S' w' S'' ∧ga w' S'' ∧(res y).p S'' v
 mono:=fun h k x y hxy=>by
  obtain⟨f,cap,e,hc,k⟩:=k x y hxy
  exact⟨f,cap,e,hc,fun w S' vs hle=>k w S' vs (SH.le_trans h hle)⟩
theorem ot{res:β→Ty}{f:α→Option β}(h:ay N G x (fH P args res f)):ay N G x (yH P args res f):=fun S a hf u y hxy=>by
 obtain⟨fid,cap,e,hc,k⟩:=h S a hf
 exact⟨fid,cap,e,hc,fun w S' vs=>k u y hxy w S' vs⟩
theorem IB{res:β→Ty}:(yH P args res (fun _:α=>(none:Option β))).p S v:=fun _ _ h=>by cases h
theorem F1{ty:TypeId}{res:β→Ty}{f:α→Option β}{fo:Operand}{x:α}{y:β}{xs:List Operand}(hfo:ay E.N G fo (yH E.P args res f))(h:f x=some y)(hx:iB E.N G xs (args x)):
  bU E O G ⟨dst,.call ⟨.value fo,xs.toArray,ats⟩,ty,pos,after,g⟩ (res y):=fun a w S hS _ hF=>by
 obtain⟨fid,cap,e,hc,hs⟩:=hfo S a hF x y h
 have hr:(execOp a.eval ⟨dst,.call ⟨.value fo,xs.toArray,ats⟩,ty,pos,after,g⟩).run E.P w= .ok (.enter fid ((xs.map a.eval).toArray++cap)) w:=by
  simp [execOp,resolve,e,Deferred.ofValue,invoke,ec hc]
 refine⟨fun c h=>(by cases h),?_⟩
 rw [hr]
 exact(hs w S _ (SH.le_refl _) hS (hx.tys hF)).mono fun e w' ⟨v,S',he,h1,h2,h3⟩=>⟨v,he,v,S',rfl,h1,h2,h3⟩

def GS:Nat:=1000000
def Pe{α:Type}(r:Rp α)(x:α)(g:Nat):Ty where
 p:=fun S _=>(bz r x).p S (aD g 0)
 mono:=fun h k=>(bz r x).mono h k
theorem LB{x:α}{g:Nat}{vs:List Value}(hs:ga w S)(hg:(g,vs)∈glob)(hr: ∀S,r.rc S vs x):(bz r x).p S (aD g 0):=by
 obtain⟨c,T,fr,h1,h2⟩:=hs.gl _ hg
 refine⟨g,0,c,T,fr,rfl,h1,?_⟩
 rw [qJ,←r.len (hr S)]
 have h3:c.toList.take vs.length=vs:=h2
 rw [h3]
 exact hr S
section
variable{ty:TypeId}
theorem HC{t:Ty}(hf:cG N S a G)(h: ∀v,t.p S v):cG N S a ((GS,t)::G):=⟨hf.size,hf.defers,fun j u hj=>by
 unfold look at hj
 cases hb:Nat.beq GS j with
 |true=>
  rw [hb]at hj
  simp only [cond_true,Option.some.injEq]at hj
  rw [←hj];exact h _
 |false=>
  rw [hb]at hj
  simp only [cond_false]at hj
  exact hf.at_ j u hj⟩
theorem zW{x:α}{v:Nat}{vs:List Value}{t:Ty}(hg:(v,vs)∈glob)(hr: ∀S,r.rc S vs x)(h:bU E O ((GS,Pe r x v)::G) o t):bU E O G o t:=fun a w S hs ho hf=>
 h a w S hs ho (HC hf fun _=>LB hs hg hr)
theorem KC{x:α}{v:Nat}:ay N ((GS,Pe r x v)::G) (.global v) (bz r x):=fun S a hf=>hf.at_ GS (Pe r x v) (by simp [look])
def Hw(s:ji)(i:Int):Option Int:=(eZ s i).map fun b=>(b.toNat:Int)
theorem FZ{ix:Operand}{i y:Int}(ht:E.P.underlying t=some .string)(hx:ay E.N G x (tD rS s))(hi:ay E.N G ix (tD (rI k) i))(hy:Hw s i=some y):
  bU E O G ⟨dst,.index t x ix,ty,pos,after,g⟩ (tD (rI .u8) y):= .of_pure fun a w S _ _ hf=>by
 have h1:a.eval x= .string ⟨s.toArray⟩:=pg.1 (hx S a hf)
 have h2:a.eval ix= .int k i:=dC.1 (hi S a hf)
 unfold Hw at hy
 cases hb:eZ s i with
 |none=>rw [hb]at hy;cases hy
 |some b=>
  rw [hb]at hy
  obtain⟨g1,g2⟩:=iy hb
  have hlt:i.toNat<s.length:=(lJ.1 g2).1
  have e:y=(b.toNat:Int):=by simpa using hy.symm
  have hsz:(ByteArray.mk s.toArray).size=s.length:=by simp [ByteArray.size]
  refine⟨.int .u8 y,?_,dC.2 rfl⟩
  have h3:=run_index_string (P:=E.P) w t ⟨s.toArray⟩ k i ht
  rw [dif_pos (by rw [hsz];omega)]at h3
  have h4:(ByteArray.mk s.toArray)[i.toNat]'(by rw [hsz];exact hlt)=b:=by
   have:=(lJ.1 g2).2
   show s.toArray[i.toNat]=b
   simpa using this
  simp only [execOp,h1,h2,nK,h3,nU,vg]
  rw [h4,e]
theorem FV{u:ji}{hi:Operand}(ht:E.P.underlying t=some .string)(hx:ay E.N G x (tD rS s))(hh:ay E.N G hi (tD (rI k) j))(hy:cz s 0 j=some u):
  bU E O G ⟨dst,.slice t x none (some hi) none,ty,pos,after,g⟩ (tD rS u):= .of_pure fun a w S _ _ hf=>by
 have h1:a.eval x= .string ⟨s.toArray⟩:=pg.1 (hx S a hf)
 have h2:a.eval hi= .int k j:=dC.1 (hh S a hf)
 obtain⟨l,m,e1,e2,e3,e4,e5⟩:=d3 hy
 have el:l=0:=by omega
 subst el e2 e5
 have hsz:(ByteArray.mk s.toArray).size=s.length:=by simp [ByteArray.size]
 have h3:=run_slice_string_h (P:=E.P) w t ⟨s.toArray⟩ ht k (m:Int) (by omega) (by rw [hsz];omega)
 refine⟨_,by simp only [execOp,h1,h2,Option.map_none,wL,nK,run_sliceAt_string w t _ _ _ _ ht,h3,nU,vg];rfl,pg.2 ?_⟩
 congr 1
 apply ByteArray.ext
 simp
end
open Go.MapKept (Stamped)
section
variable [DecidableEq κ]{V:MV β}
def tNx(b:Bool):Ty where
 p:=fun _ v=> ∃vs:List Value,v= .tuple (.mk (.bool b::vs))
 mono:=fun _ h=>h
end
section
variable [DecidableEq κ]{V:MV β}{r:Nat}{left:List κ}{cur:Option κ}{k:κ}{i v:Operand}{dst:Option Nat}{ty:TypeId}
theorem AG{f:Bool}(hx:ay E.N G x (tNx f)):bU E O G ⟨dst,.extract x 0,ty,pos,after,g⟩ (tD rB f):=
 .of_pure fun a w S _ _ hf=>by
  obtain⟨vs,h1⟩:=hx S a hf
  exact⟨.bool f,by simp [execOp,h1,Instr.extract],fy.2 rfl⟩
end
open Go.RowKit

theorem Gj(hs:ga w S)(h:Below w.heap.size w w')(hd:w.drawn≤w'.drawn):eS mR w S w' S∧ga w' S:=
 ⟨⟨h.os,h.tape,h.output,hd,h.size,fun k hk _=>h.block k hk,SH.le_refl _,fun _ _ _=>rfl⟩,hs.same fun b o hb=>h.block b (hs.lt hb)⟩
theorem Ct{f:FuncId}{t:ji}(h: ∀w:World,Fw w→Calls P f #[.string ⟨s.toArray⟩] w fun e w' =>e= .returned (.string ⟨t.toArray⟩)∧Below w.heap.size w w'):bg P f [tD rS s] (tD rS t):=fun w S vs hs hv=>by
 match vs,hv with
 |[v],⟨h1,_⟩=>
  obtain rfl:=pg.1 h1
  refine(Co (h w hs.tab) (fun w' hr=>by cases hr.1)).mono fun e w' ⟨⟨he,hb⟩,hd⟩=>?_
  obtain⟨k1,k2⟩:=Gj hs hb hd
  exact⟨_,S,he,k1,k2,pg.2 rfl⟩

theorem tA{k:IntKind}{S:SH}: ∀{xs:List Int} {cs:List Value},nN (rI k) S cs xs→cs=xs.map (Value.int k)
 |[],cs,h=>by rw [show cs=[]from h];rfl
 |x::xs,cs,⟨a,b,e,h1,h2⟩=>by
  rw [e,show a=[.int k x]from h1,tA h2]
  rfl
section
variable{ty:TypeId}
theorem FW(ha:E.P.underlying t=some (.array n e))(ti:TI E.P e sz bytes agg z)(hn:Nat.ble n maxLen=true)(hx:ay E.N G x (bz (lR r n) xs)):bU E O G ⟨dst,.slice t x none none none,ty,pos,after,g⟩ (tD (dE r) xs):= .of_pure fun a w S _ _ hf=>by
 obtain⟨b,off,c,T,fr,h1,h2,h3,h4⟩:=hx S a hf
 have hz:(⟨b,off,none⟩:Addr).add 0=⟨b,off,none⟩:=by rw [fO,Nat.add_zero]
 refine⟨.slice (some ⟨b,off,none⟩) n n,?_,jl.2 ⟨_,_,by rw [h3],by omega,mq hn,.inr ⟨b,off,c,T,fr,rfl,h2,by rw [h3];exact h4⟩⟩⟩
 by_cases h0:n=0
 ·subst h0
  simp [execOp,h1,Instr.sliceAt,mV ha,ti.sizeOf,Instr.sliceBounds,Instr.sureAddr]
 ·simp [execOp,h1,Instr.sliceAt,mV ha,ti.sizeOf,Instr.sliceBounds,Instr.sureAddr,h0,hz]
theorem F0{ix:Operand}{i:Int}(ht:E.P.underlying t=some (.array n e))(ti:TI E.P e sz bytes agg z)(hsz:r.sz=sz)(hag:r.agg=agg)(hx:ay E.N G x (tD (lR r n) xs))(hi:ay E.N G ix (tD (rI k) i))(hy:eZ xs i=some y):bU E O G ⟨dst,.index t x ix,ty,pos,after,g⟩ (tD r y):= .of_pure fun a w S _ _ hf=>by
 obtain⟨cs,h1,h2,h3⟩:=hx S a hf
 have h1' :a.eval x= .agg cs.toArray:=h1
 have h4:a.eval ix= .int k i:=dC.1 (hi S a hf)
 obtain⟨g1,g2⟩:=iy hy
 have hlt:i.toNat<xs.length:=(lJ.1 g2).1
 have hg:=wq h3 g2
 have hin:0≤i∧i<(n:Int):=⟨g1,by omega⟩
 refine⟨r.val ((cs.drop (i.toNat*r.sz)).take r.sz),?_,_,rfl,hg⟩
 have hp:(part e cs.toArray (i.toNat*sz)).run E.P w= .ok (r.val ((cs.drop (i.toNat*r.sz)).take r.sz)) w:=by
  subst hsz
  subst hag
  have hl:=r.len hg
  unfold part
  simp only [nK,ti.isAgg,nU]
  cases hA:r.agg with
  |true=>
   simp [ti.sizeOf,Rp.val,hA]
  |false=>
   have h1:=r.sc hA
   rw [h1,Nat.mul_one]at hl ⊢
   cases hd:cs.drop i.toNat with
   |nil=>rw [hd]at hl;simp at hl
   |cons v l=>
    have hv:cs[i.toNat]? =some v:=by
     have:=qE (xs:=cs) (i:=i.toNat) (j:=0)
     rw [hd]at this
     simpa using this.symm
    simp [Rp.val,hA,hv]
 simp [execOp,h1',h4,Instr.index,asIntOf,mV ht,hin,ti.sizeOf,hp]

def n8(s:ji)(i:Nat):Nat×Nat:=Utf8.decode ⟨s.toArray⟩ i
def ov(s:ji):Nat→Nat→List (Int×Int)
 |0,_=>[]
 |f+1,i=>if i<s.length then((i:Int),((n8 s i).1:Int))::ov s f (i+(n8 s i).2)else []
def BE(s:ji):List (Int×Int):=ov s (s.length+1) 0
theorem J5(s:ji)(i:Nat):1≤(n8 s i).2:=by
 unfold n8 Utf8.decode
 simp only []
 repeat' split
 all_goals simp
def yI(r:Nat)(s:ji)(left:List (Int×Int)):OE where
 fp:=fun j=>j=r
 p:=fun w S=>S r=none∧ ∃pos f,w.heap[r]? =some (.stringIter ⟨s.toArray⟩ pos)∧left=ov s f pos∧s.length<pos+f
 here:=by
  rintro w S ⟨_,pos,f,h,_⟩ j rfl
  exact(nW.1 h).1
 kept:=by
  rintro C w w' S S' ⟨h0,pos,f,h,h2⟩ k hC
  have hlt:=(nW.1 h).1
  exact⟨by rw [k.old r hlt (hC r rfl)];exact h0,pos,f,by rw [k.heap r hlt (hC r rfl)];exact h,h2⟩
theorem Cx(ht:E.P.underlying t=some .string)(hx:ay E.N G x (tD rS s))(hd:Nat.blt d E.N.n=true)(k: ∀r,RG E ops Q rest (yI r s (BE s)::O) ((d,tV (aD r 0))::G)):RG E ops Q (⟨some d,.range t x,ty,pos,after,none⟩::rest) O G:= .of rfl fun a w S st=>by
 have hv:a.eval x= .string ⟨s.toArray⟩:=pg.1 (hx S a st.facts)
 have hrun:(execOp a.eval ⟨some d,.range t x,ty,pos,after,none⟩).run E.P w= .ok (.value (aD w.heap.size 0)) (w.alloc (.stringIter ⟨s.toArray⟩ 0)):=by
  simp [execOp,hv,Instr.range,mV ht,aD]
 refine⟨fun c h=>(by cases h),?_⟩
 rw [hrun]
 obtain⟨he,hs',hno⟩:=dZ (w:=w) (.stringIter ⟨s.toArray⟩ 0) st.sat
 exact k w.heap.size _ _ S ⟨st.ext.step0 he,hs',mG st.own he ⟨hno,0,s.length+1,wH w _,rfl,by omega⟩ (fun b hb=>by rw [show b=_ from hb];exact fQ _) st.base_le,st.facts.put hd rfl⟩
theorem DQ{r:Nat}{left:List (Int×Int)}(hx:ay E.N G x (tV (aD r 0)))(hd:Nat.blt d E.N.n=true)(h0:left=[]→RG E ops Q rest (yI r s []::O) ((d,tNx false)::G))(h1: ∀e l,left=e::l→RG E ops Q rest (yI r s l::O) ((d,tT [tD rB true,tD (rI .i64) e.1,tD (rI .i32) e.2])::G)):
  RG E ops Q (⟨some d,.next x true,ty,pos,after,none⟩::rest) (yI r s left::O) G:= .of rfl fun a w S st=>by
 obtain⟨⟨⟨hno,ps,f,hb,hl,hf⟩,hfp⟩,hap,hO⟩:=st.own
 have hv:a.eval x=aD r 0:=hx S a st.facts
 have hsz:(ByteArray.mk s.toArray).size=s.length:=by simp [ByteArray.size]
 have hg:(getObj r).run E.P w= .ok (.stringIter ⟨s.toArray⟩ ps) w:=by
  simp [getObj,Sem.run,hb]
 by_cases hp:ps<s.length
 ·obtain⟨f,rfl⟩: ∃f',f=f' +1:=⟨f-1,by omega⟩
  have hl2:left=((ps:Int),((n8 s ps).1:Int))::ov s f (ps+(n8 s ps).2):=by rw [hl,ov,dq hp]
  have hset:(setObj r (.stringIter ⟨s.toArray⟩ (ps+(n8 s ps).2))).run E.P w= .ok () {w with heap:=w.heap.setIfInBounds r (.stringIter ⟨s.toArray⟩ (ps+(n8 s ps).2))}:=by
   simp [setObj,Sem.run,hb]
  have hrun:(execOp a.eval ⟨some d,.next x true,ty,pos,after,none⟩).run E.P w= .ok (.value (.tuple #[.bool true,.int .i64 ps,.int .i32 (n8 s ps).1])) {w with heap:=w.heap.setIfInBounds r (.stringIter ⟨s.toArray⟩ (ps+(n8 s ps).2))}:=by
   have h3:(Instr.next (aD r 0) true ty).run E.P w= .ok (.tuple #[.bool true,.int .i64 ps,.int .i32 (n8 s ps).1]) {w with heap:=w.heap.setIfInBounds r (.stringIter ⟨s.toArray⟩ (ps+(n8 s ps).2))}:=by
    unfold Instr.next aD
    simp only [nK,hg,nU,hsz,hp,pf]
    rw [show Utf8.decode ⟨s.toArray⟩ ps=n8 s ps from rfl]
    simp only [nK,hset,nU]
    rfl
   simp [execOp,hv,h3]
  refine⟨fun c h=>(by cases h),?_⟩
  rw [hrun]
  have hblt:=(nW.1 hb).1
  have hx' :eS (fun k=> ∃f∈[yI r s left],f.fp k) w S {w with heap:=w.heap.setIfInBounds r (.stringIter ⟨s.toArray⟩ (ps+(n8 s ps).2))} S:=
   ⟨rfl,rfl,rfl,fQ _,by simp,fun k _ hk=>by
    have:r≠k:=fun e=>hk ⟨_,List.mem_singleton_self _,e.symm⟩
    simp [this],SH.le_refl _,fun _ _ _=>rfl⟩
  have hs' :ga {w with heap:=w.heap.setIfInBounds r (.stringIter ⟨s.toArray⟩ (ps+(n8 s ps).2))} S:=st.sat.same fun k o hk=>by
   have:r≠k:=fun e=>by subst e;rw [hno]at hk;cases hk
   simp [this]
  have hnew:(yI r s (ov s f (ps+(n8 s ps).2))).p {w with heap:=w.heap.setIfInBounds r (.stringIter ⟨s.toArray⟩ (ps+(n8 s ps).2))} S:=
   ⟨hno,_,f,by simp [hblt],rfl,by have:=J5 s ps;omega⟩
  refine h1 _ _ hl2 _ _ S ((st.turn (O1:=[yI r s left]) (O2:=[yI r s (ov s f (ps+(n8 s ps).2))]) hx' hs' ⟨⟨hnew,fun k hk=> .inl (jM _)⟩,fun _ h=>(by cases h),trivial⟩ (fun k ⟨g,hg,hk⟩=>?_)).put hd ?_)
  ·have:g=yI r s (ov s f (ps+(n8 s ps).2)):=by simpa using hg
   subst this
   exact .inl ⟨_,List.mem_singleton_self _,hk⟩
  ·exact⟨[.bool true,.int .i64 ps,.int .i32 (n8 s ps).1],rfl,fy.2 rfl,dC.2 rfl,dC.2 rfl,trivial⟩
 ·have hl2:left=[]:=by
   rw [hl]
   cases f with
   |zero=>rfl
   |succ f=>rw [ov,di hp]
  have hrun:(execOp a.eval ⟨some d,.next x true,ty,pos,after,none⟩).run E.P w= .ok (.value (.tuple #[.bool false])) w:=by
   have h3:(Instr.next (aD r 0) true ty).run E.P w= .ok (.tuple #[.bool false]) w:=by
    unfold Instr.next aD
    simp only [nK,hg,nU,hsz,hp,pt]
    rfl
   simp [execOp,hv,h3]
  refine⟨fun c h=>(by cases h),?_⟩
  rw [hrun]
  subst hl2
  exact h0 rfl _ _ S (st.put hd ⟨[],rfl⟩)
theorem sj{t:Ty}{u:List Ty}{i:Nat}(hu:u[i]? =some t)(hx:ay E.N G x (tT u)):bU E O G ⟨dst,.extract x i,ty,pos,after,g⟩ t:=xB hu hx
theorem Ml{Z:List β→Prop}{Of:List β→List OE}{Gf:jK}(h: ∀l,Z l→(∀l2,l2.length<l.length→Z l2→LG E Q c (Of l2) Gf)→LG E Q c (Of l) Gf)(l:List β)(hz:Z l):LG E Q c (Of l) Gf:=by
 have key: ∀(n:Nat) (l:List β),l.length≤n→Z l→LG E Q c (Of l) Gf:=by
  intro n
  induction n with
  |zero=>intro l hn hz;exact h l hz fun l2 h2 _=>absurd h2 (by omega)
  |succ n ih=>intro l hn hz;exact h l hz fun l2 h2 hz2=>ih l2 (by omega) hz2
 exact key l.length l (fQ _) hz
end

abbrev NG:=Nat→(Option Nat×Nat)×(Nat→Option Nat×Nat)
inductive NPl where
 |o
 |i (k:Nat)
 |l (k j:Nat)
section
def Ms(q:Nat→Option Nat×Nat)(zs:List (List α)):List Value:=zs.mapIdx fun j z=>ai (q j).1 (q j).2 z.length
def hd1(prj:β→List (List α))(g:NG)(x:List β):List Value:=x.mapIdx fun k y=>ai (g k).1.1 (g k).1.2 (prj y).length
def nsB(prj:β→List (List α))(l:Option Nat)(g:NG)(x:List β)(h:Option (Nat×Nat)):NPl→Option Nat
 | .o=>l
 | .i k=>(x[k]?).bind fun _=>(g k).1.1
 | .l k j=>if h=some (k,j)then none else((x[k]?).bind fun y=>(prj y)[j]?).bind fun _=>((g k).2 j).1
structure nstP(prj:β→List (List α))(r:Rp α)(T1 T2 T3:TypeId)(l:Option Nat)(cap n:Nat)(g:NG)(x:List β)(h:Option (Nat×Nat))(w:World)(S:SH):Prop where
 len:x.length=n
 out:uj false rV T1 l cap (hd1 prj g x) w S
 inn: ∀k y,x[k]? =some y→uj false rV T2 (g k).1.1 (g k).1.2 (Ms (g k).2 (prj y)) w S
 lvs: ∀k y j z,x[k]? =some y→(prj y)[j]? =some z→h≠some (k,j)→uj true r T3 ((g k).2 j).1 ((g k).2 j).2 z w S
 inj: ∀s t b,nsB prj l g x h s=some b→nsB prj l g x h t=some b→s=t
variable{prj:β→List (List α)}{T1 T2 T3:TypeId}{l:Option Nat}{g:NG}{x:List β}{h:Option (Nat×Nat)}
end
section
variable{prj:β→List (List α)}{T1 T2 T3:TypeId}{l:Option Nat}{g:NG}{x:List β}{h:Option (Nat×Nat)}
variable{ty:TypeId}{gd:Option (Nat×Bool)}
open Classical in
noncomputable def O3(w:World)(S:SH)(P:Nat→Prop):SH:=fun b=>if P b then w.heap[b]? else S b
def g0(hs:List (Option Nat×Nat)):NG:=fun k=>(hs.getD k (none,0),fun _=>(none,0))
def tsB(l:Option Nat)(q:Nat→Option Nat×Nat)(zs:List (List α))(h:Option Nat):Option Nat→Option Nat
 |none=>l
 |some j=>if h=some j then none else(zs[j]?).bind fun _=>(q j).1
structure rowP(r:Rp α)(T2 T3:TypeId)(l:Option Nat)(cap n:Nat)(q:Nat→Option Nat×Nat)(zs:List (List α))(h:Option Nat)(w:World)(S:SH):Prop where
 len:zs.length=n
 inn:uj false rV T2 l cap (Ms q zs) w S
 lvs: ∀j z,zs[j]? =some z→h≠some j→uj true r T3 (q j).1 (q j).2 z w S
 inj: ∀s t b,tsB l q zs h s=some b→tsB l q zs h t=some b→s=t
variable{q:Nat→Option Nat×Nat}{zs:List (List α)}{k:Option Nat}
end

def yW(es:List Bool)(done:Array Bool):List Nat:=(List.range es.length).filter fun k=>(es[k]?).getD false&&done.getD k false
def IV(es:List Bool)(i:Nat)(s:List Nat):List Nat:=(List.range es.length).filter fun k=>Nat.beq k i||s.contains k
def Mb:List Nat→List Nat→Bool
 |[],[]=>true
 |a::s,b::t=>Nat.beq a b&&Mb s t
 |_,_=>false
theorem DF: ∀{s t:List Nat},Mb s t=true→s=t
 |[],[],_=>rfl
 |a::s,b::t,h=>by
  simp only [Mb,iP]at h
  rw [mr h.1,DF h.2]
 |[],_::_,h=>by cases h
 |_::_,[],h=>by cases h
def GN:List (List Nat×((Nat→OI)→List OE))→List Nat→(Nat→OI)→List OE
 |[],_,_=>[]
 |p::r,s,σ=>bif Mb p.1 s then p.2 σ else GN r s σ
theorem tI{k:Nat}:k∈yW es done↔es[k]? =some true∧done.getD k false=true:=by
 unfold yW
 rw [List.mem_filter,List.mem_range,iP]
 constructor
 ·rintro⟨h1,h2,h3⟩
  refine⟨?_,h3⟩
  rw [nT h1]at h2 ⊢
  simpa using h2
 ·rintro⟨h1,h2⟩
  exact⟨(lJ.1 h1).1,by rw [h1];rfl,h2⟩
theorem Gq{i:Nat}(h:es[i]? =some false):yW es (done.setIfInBounds i true)=yW es done:=by
 unfold yW
 refine List.filter_congr fun k hk=>?_
 by_cases hik:i=k
 ·subst hik;rw [h];rfl
 ·rw [uB false hik]
theorem J4{i:Nat}(h:es[i]? =some true)(hs:i<done.size):yW es (done.setIfInBounds i true)=IV es i (yW es done):=by
 unfold IV
 conv=>lhs;unfold yW
 refine List.filter_congr fun k hk=>?_
 by_cases hik:i=k
 ·subst hik;simp [h,hs]
 ·rw [uB false hik]
  have hb:Nat.beq k i=false:=by
   cases hb:Nat.beq k i with
   |false=>rfl
   |true=>exact absurd (mr hb).symm hik
  rw [hb,sv,z8,Bp,tI,iP]
  constructor
  ·rintro⟨h1,h2⟩
   refine⟨?_,h2⟩
   cases he:es[k]? with
   |none=>rw [he]at h1;cases h1
   |some b=>rw [he]at h1;simpa using h1
  ·rintro⟨h1,h2⟩
   exact⟨by rw [h1];rfl,h2⟩
def za:List Nat→List (List Nat)
 |[]=>[[]]
 |k::l=>(za l).map (k:: ·)++za l
def wh(es:List Bool):List Nat:=(List.range es.length).filter fun k=>(es[k]?).getD false
theorem ra(p:Nat→Bool): ∀l:List Nat,l.filter p∈za l
 |[]=>CR.2 rfl
 |k::l=>by
  unfold za
  rw [yy]
  by_cases h:p k=true
  ·rw [List.filter_cons_of_pos h]
   exact .inl (List.mem_map.2 ⟨_,ra p l,rfl⟩)
  ·rw [List.filter_cons_of_neg h]
   exact .inr (ra p l)
theorem HQ(es:List Bool)(done:Array Bool):yW es done∈za (wh es):=by
 have:yW es done=(wh es).filter fun k=>done.getD k false:=by
  unfold yW wh
  rw [List.filter_filter]
  refine List.filter_congr fun k _=>Bool.and_comm ..
 rw [this]
 exact ra _ _
def Pg(L:List Oper)(es:List Bool)(i:Nat)(s:List Nat):Bool:=
 s.contains i||(wh es).any fun k=>if s.contains k then kG L L.length k i||(wh es).any fun j=> !s.contains j&&kG L L.length k j else kG L L.length i k
def Fp(L:List Oper)(es:List Bool)(i:Nat)(aas:List (List Nat)):Bool:=(za (wh es)).all fun s=>Pg L es i s||aas.any fun a=>Mb a s
def CK{α:Type}(p:α→Prop):List α→Prop
 |[]=>True
 |a::l=>p a∧CK p l
theorem CK.mem{p:α→Prop}: ∀{l:List α},CK p l→ ∀a∈l,p a
 |_::_,⟨h,_⟩,_,.head _=>h
 |_::_,⟨_,h⟩,_,.tail _ hm=>CK.mem h _ hm
abbrev Mu:=List (List Nat×((Nat→OI)→List OE))
def DT(E:En)(G:jK)(L:List Oper)(ts:List TS)(Ss:Mu)(es0:List Bool):Nat→List Oper→List Bool→Prop
 |_,[],_=>True
 |i,o::rest,false::es=>(∃(needs:List NS) (t:TS) (aas:List (List Nat)),ts[i]? =some t∧qz G ts needs∧(needs.all fun n=>mA L o i (n.at fun _=>rx))=true∧dG i o=true∧Gr L es0 i t=true∧Fp L es0 i aas=true∧o.dst.isSome=true∧
   CK (fun s=> ∀σ,bV E (GN Ss s σ) L.toArray (qv needs σ) o (t.at σ)) aas)∧DT E G L ts Ss es0 (i+1) rest es
 |i,o::rest,true::es=>(∃(needs:List NS) (t:TS) (aas:List (List Nat×List Nat)),ts[i]? =some t∧qz G ts needs∧(needs.all fun n=>mA L o i (n.at fun _=>rx))=true∧dG i o=true∧Gr L es0 i t=true∧Fp L es0 i (aas.map (·.1))=true∧(aas.all fun p=>Mb (IV es0 i p.1) p.2)=true∧
   CK (fun p:List Nat×List Nat=> ∀σ,nH E L.toArray (GN Ss p.1 σ) (qv needs σ) o (fun x=>GN Ss p.2 (CN σ i x)) (fun x=>t.at (CN σ i x))) aas)∧DT E G L ts Ss es0 (i+1) rest es
 |_,_::_,[]=>False
theorem DT.get{ts:List TS}{Ss:Mu}{es0:List Bool}: ∀(r:List Oper) (es:List Bool) (k:Nat),DT E G L ts Ss es0 k r es→ ∀(j:Nat) (o:Oper),r[j]? =some o→
    ∃e,es[j]? =some e∧ ∃(needs:List NS) (t:TS),ts[k+j]? =some t∧qz G ts needs∧(needs.all fun n=>mA L o (k+j) (n.at fun _=>rx))=true∧dG (k+j) o=true∧Gr L es0 (k+j) t=true∧
      (match e with
       |false=>o.dst.isSome=true∧ ∃aas,Fp L es0 (k+j) aas=true∧CK (fun s=> ∀σ,bV E (GN Ss s σ) L.toArray (qv needs σ) o (t.at σ)) aas
       |true=> ∃aas:List (List Nat×List Nat),Fp L es0 (k+j) (aas.map (·.1))=true∧(aas.all fun p=>Mb (IV es0 (k+j) p.1) p.2)=true∧CK (fun p:List Nat×List Nat=> ∀σ,nH E L.toArray (GN Ss p.1 σ) (qv needs σ) o (fun x=>GN Ss p.2 (CN σ (k+j) x)) (fun x=>t.at (CN σ (k+j) x))) aas):=by
  intro r
  induction r with
  |nil=>intro es k _ j o h;simp at h
  |cons p r ih=>
    intro es k h j o ho
    cases es with
    |nil=>exact h.elim
    |cons e es=>
      cases e with
      |false=>
        obtain⟨⟨needs,t,aas,g1,g2,g3,g4,g5,g6,g7,g8⟩,h2⟩:=h
        cases j with
        |zero=>
          simp at ho;subst ho
          exact⟨false,rfl,needs,t,g1,g2,g3,g4,g5,g7,aas,g6,g8⟩
        |succ j=>
          obtain⟨e',g1,g2⟩:=ih es (k+1) h2 j o (by simpa using ho)
          refine⟨e',by simpa using g1,?_⟩
          rw [show k+1+j=k+(j+1)from by omega]at g2
          exact g2
      |true=>
        obtain⟨⟨needs,t,aas,g1,g2,g3,g4,g5,g6,g7,g8⟩,h2⟩:=h
        cases j with
        |zero=>
          simp at ho;subst ho
          exact⟨true,rfl,needs,t,g1,g2,g3,g4,g5,aas,g6,g7,g8⟩
        |succ j=>
          obtain⟨e',g1,g2⟩:=ih es (k+1) h2 j o (by simpa using ho)
          refine⟨e',by simpa using g1,?_⟩
          rw [show k+1+j=k+(j+1)from by omega]at g2
          exact g2
structure KU(E:En)(G:jK)(l:List Oper)(ts:List TS)(Ss:Mu)(es:List Bool)(done:Array Bool)(a:Act)(w:World)(S:SH)(σ:Nat→OI):Prop where
 ext:eS E.B E.w0 E.S0 w S
 sat:ga w S
 own:dd E.base E.B w S (GN Ss (yW es done) σ)
 size:a.tmps.size=E.N.n
 defers:a.defers=E.N.ds
 dsz:done.size=l.length
 down: ∀j o,l[j]? =some o→done.getD j false=true→ ∀e∈o.after,Region.binds .any e=true→done.getD e.on false=true
 old: ∀k t,look G k=some t→(∀j o,l[j]? =some o→done.getD j false=true→o.dst≠some k)→t.p S (a.tmps.getD k undef)
 new: ∀j o d p,l[j]? =some o→done.getD j false=true→o.dst=some d→ts[j]? =some p→(p.at σ).p S (a.tmps.getD d undef)
 deps: ∀j p,done.getD j false=true→ts[j]? =some p→ ∀k∈p.1,done.getD k false=true
section
variable{ts:List TS}{Ss:Mu}
theorem KU.need(h:KU E G L ts Ss es done a w S σ){i:Nat}(hi:L[i]? =some o)(hun:done.getD i true=false)(hwait: ∀e∈o.after,Region.binds .any e=true→done.getD e.on false=true){needs:List NS}(h1:qz G ts needs)(h2:(needs.all fun n=>mA L o i (n.at fun _=>rx))=true):cG E.N S a (qv needs σ):=by
 have hlt:i<done.size:=by rw [h.dsz];exact(lJ.1 hi).1
 have hun' :done.getD i false=false:=by
  simp [hlt]at hun ⊢;exact hun
 refine⟨h.size,h.defers,?_⟩
 have key: ∀n∈needs,(n.ty σ).p S (a.tmps.getD n.slot undef):=by
  intro n hn
  have hs:=lz.1 h2 n hn
  have ho:=h1.mem n hn
  unfold mA NS.at at hs
  unfold Kn at ho
  cases hsrc:n.src with
  |some j=>
   rw [hsrc]at hs ho
   simp only [iP]at hs
   obtain⟨hs1,hs2⟩:=hs
   cases hj:L[j]? with
   |none=>rw [hj]at hs1;cases hs1
   |some p=>
    rw [hj]at hs1
    cases hd:p.dst with
    |none=>simp only [hd]at hs1;cases hs1
    |some d=>
     simp only [hd]at hs1
     have hd' :=mr hs1
     subst hd'
     have hdone:done.getD j false=true:=by
      unfold vj at hs2
      obtain⟨e,he0,hb⟩:=wI.1 hs2
      have he:e∈o.after:=by simpa using he0
      simp only [iP]at hb
      have:=hwait e he hb.2
      rwa [mr hb.1]at this
     have hm:=ho σ
     cases hf:ts[j]? with
     |none=>rw [hf]at hm;simp at hm
     |some f=>
      rw [hf]at hm
      have e:f.at σ=n.ty σ:=by simpa using hm
      rw [←e]
      exact h.new j p n.slot f hj hdone hd hf
  |none=>
   rw [hsrc]at hs ho
   refine h.old _ _ (ho σ) fun j p hj hdone hd=>?_
   have:=lz.1 hs p (nV hj)
   simp only [hd,Nat.beq_refl,su,sv]at this
   unfold vj at this
   obtain⟨e,he0,hb⟩:=wI.1 this
   have he:e∈p.after:=by simpa using he0
   simp only [iP]at hb
   have h3:=h.down j p hj hdone e he hb.2
   rw [mr hb.1]at h3
   rw [h3]at hun'
   cases hun'
 clear h1 h2
 intro k t hk
 unfold qv at hk
 induction needs with
 |nil=>simp [g9,look]at hk
 |cons n needs ih=>
  simp only [List.map_cons]at hk
  unfold g9 look at hk
  by_cases hb:Nat.beq n.slot k=true
  ·have hb' :Nat.beq (n.at σ).slot k=true:=hb
   rw [hb']at hk
   have:=mr hb
   subst this
   have h9:some (n.at σ).ty=some t:=by simpa using hk
   have e:n.ty σ=t:=lc h9
   rw [←e]
   exact key n (lI ..)
  ·rw [s7]at hb
   have hb' :Nat.beq (n.at σ).slot k=false:=hb
   rw [hb']at hk
   exact ih (fun m hm=>key m (ly _ hm)) hk
theorem KU.step{σ' :Nat→OI}(h:KU E G L ts Ss es done a w S σ){i:Nat}{p0:TS}{C:Nat→Prop}(hi:L[i]? =some o)(hdN: ∀d,o.dst=some d→d<E.N.n)(hs2: ∀d,o.dst=some d→ ∀j p,L[j]? =some p→done.getD j false=true→p.dst=some d→i=j)(hwait: ∀e∈o.after,Region.binds .any e=true→done.getD e.on false=true)(ht:ts[i]? =some p0)(hun:done.getD i true=false)(hdep: ∀k∈p0.1,k=i∨done.getD k false=true)(hext:eS C w S w' S')(hC: ∀b,C b→E.base≤b∨E.B b)(hsat:ga w' S')(hown:dd E.base E.B w' S' (GN Ss (yW es (done.setIfInBounds i true)) σ'))(hσ: ∀k,k≠i→σ' k=σ k)(hv:(p0.at σ').p S' v):
  KU E G L ts Ss es (done.setIfInBounds i true) (a.put o.dst v) w' S' σ' :=by
 have hlt:i<done.size:=by rw [h.dsz];exact(lJ.1 hi).1
 have hset: ∀j,(done.setIfInBounds i true).getD j false=true→j=i∨done.getD j false=true:=fun j hj=>by
  by_cases hij:i=j
  ·exact .inl hij.symm
  ·rw [uB false hij]at hj;exact .inr hj
 have hseti:(done.setIfInBounds i true).getD i false=true:=by simp [hlt]
 have hun' :done.getD i false=false:=by simp [hlt]at hun ⊢;exact hun
 have hput: ∀k,(∀d,o.dst=some d→d≠k)→(a.put o.dst v).tmps.getD k undef=a.tmps.getD k undef:=fun k hk=>by
  cases hd:o.dst with
  |none=>rfl
  |some d=>
   have hda:d<a.tmps.size:=by rw [h.size];exact hdN d hd
   rw [nk hda,di (hk d hd)]
 refine⟨h.ext.step hext hC,hsat,hown,?_,?_,by simp [h.dsz],fun j p hj hdone e he hb=>?_,fun k u hk hno=>?_,fun j p d' u hj hdone hd' hu=>?_,fun j u hj hu k hk=>?_⟩
 ·cases o.dst with
  |none=>exact h.size
  |some d=>simp [Act.put,h.size]
 ·cases o.dst with
  |none=>exact h.defers
  |some d=>exact h.defers
 ·rcases hset j hdone with rfl|hj'
  ·rw [hi]at hj
   have:o=p:=by simpa using hj
   subst this
   exact pO (hwait e he hb)
  ·exact pO (h.down j p hj hj' e he hb)
 ·rw [hput k fun d hd e=>hno i o hi hseti (by rw [hd,e])]
  exact u.mono hext.keep (h.old k u hk fun j p hj hdone=>hno j p hj (pO hdone))
 ·by_cases hij:j=i
  ·subst hij
   rw [hi]at hj
   have:o=p:=by simpa using hj
   subst this
   have hda:d' <a.tmps.size:=by rw [h.size];exact hdN d' hd'
   rw [hd',nk hda,dq rfl]
   rw [ht]at hu
   have:p0=u:=by simpa using hu
   subst this
   exact hv
  ·have hj' :=(hset j hdone).resolve_left hij
   rw [hput d' fun d hd e=>by subst e;exact hij (hs2 d hd j p hj hj' hd').symm]
   have e1:u.at σ' =u.at σ:=congrArg u.2 (List.map_congr_left fun k hk=>hσ k fun e=>by
     subst e
     rw [h.deps j u hj' hu k hk]at hun';cases hun')
   rw [e1]
   exact Ty.mono _ hext.keep (h.new j p d' u hj hj' hd' hu)
 ·rcases hset j hj with rfl|hj'
  ·rw [ht]at hu
   have:p0=u:=by simpa using hu
   subst this
   rcases hdep k hk with rfl|h'
   ·exact hseti
   ·exact pO h'
  ·exact pO (h.deps j u hj' hu k hk)
end
theorem Br{l t:List Oper}{ts:List TS}{Ss:Mu}(hsl:qS E.N.n [] l=true)(hlen:ts.length=l.length)(hesl:es.length=l.length)(hd:DT E G (l++t) ts Ss es 0 l es)(ht:sb (l++t) l.length t.length=true)(hQ: ∀a w S σ,St E (GN Ss (wh es) σ) (BM l (Ih ts σ) G) a w S→wpListIn (fw E.r) 0 E.P (l++t).toArray Q t a w):
  ∀(fuel:Nat) (done:Array Bool) (a:Act) (w:World) (S:SH) (σ:Nat→OI),jf done=fuel→(∀j,l.length≤j→done.getD j false=false)→KU E G (l++t) ts Ss es done a w S σ→wpAnyIn (fw E.r) 0 E.P .any (l++t).toArray Q fuel done a w:=by
 have hL1: ∀i o,i<l.length→(l++t)[i]? =some o→l[i]? =some o:=fun i o hi h=>by rwa [sA hi]at h
 have hL2: ∀i o,l[i]? =some o→(l++t)[i]? =some o:=fun i o h=>by rw [sA (lJ.1 h).1];exact h
 have htail: ∀m o,l.length≤m→(l++t)[m]? =some o→qn (l++t) m=true∧dG m o=true:=fun m o hm ho=>by
  have hml:m<(l++t).length:=(lJ.1 ho).1
  rw [kN]at hml
  unfold sb at ht
  have:=lz.1 ht (m-l.length) (by simp;omega)
  rw [show l.length+(m-l.length)=m from by omega,ho]at this
  simp only [iP]at this
  exact⟨this.1,this.2.1⟩
 have hget:=fun i o (hi:l[i]? =some o)=>DT.get l es 0 hd i o hi
 have hedge: ∀i o,(l++t)[i]? =some o→dG i o=true:=fun i o hi=>by
  rcases jP i l.length with h|h
  ·obtain⟨_,_,_,_,_,_,_,h,_⟩:=hget i o (hL1 i o h hi)
   simpa using h
  ·exact(htail i o h hi).2
 obtain⟨hs1,hs2⟩:=vn l [] hsl
 have fin: ∀fuel done a w S σ,jf done=fuel→(∀j,l.length≤j→done.getD j false=false)→KU E G (l++t) ts Ss es done a w S σ→(∀i,i<l.length→done.getD i false=true)→wpAnyIn (fw E.r) 0 E.P .any (l++t).toArray Q fuel done a w:=by
  intro fuel done a w S σ hu hfree h hall
  have hdn:yW es done=wh es:=by
   unfold yW wh
   refine List.filter_congr fun k hk=>?_
   rw [hall k (by rw [←hesl];exact List.mem_range.1 hk),Bool.and_true]
  have hown:=h.own
  rw [hdn]at hown
  refine sD (n:=l.length) (fun m o hm ho=>(htail m o hm ho).1) hedge t l.length done fuel a w (fQ _) (by simp) h.dsz (fun j hj=>⟨fun hjd=>?_,fun hlt=>hall j hlt⟩) hu
   (hQ a w S σ ⟨h.ext,h.sat,hown,h.size,h.defers,fun j u hj=>?_⟩)
  ·rcases jP j l.length with h' |h'
   ·exact h'
   ·rw [hfree j h']at hjd;cases hjd
  ·rcases zr l (Ih ts σ) j u (by unfold Ih;rw [List.length_map];exact hlen) hj with⟨i,o,h1,h2,h3⟩|⟨h1,h2⟩
   ·unfold Ih at h3
    rw [y7]at h3
    cases hf:ts[i]? with
    |none=>rw [hf]at h3;simp at h3
    |some f=>
     rw [hf]at h3
     have e:f.at σ=u:=by simpa using h3
     rw [←e]
     exact h.new i o j f (hL2 i o h1) (hall i (lJ.1 h1).1) h2 hf
   ·refine h.old j u h1 fun i o ho hdn=>?_
    rcases jP i l.length with h' |h'
    ·exact h2 o (nV (hL1 i o h' ho))
    ·rw [hfree i h']at hdn;cases hdn
 have lower: ∀done a w S σ i,(∀j,l.length≤j→done.getD j false=false)→KU E G (l++t) ts Ss es done a w S σ→i∈Region.ready .any (l++t).toArray done→l.length≤i→ ∀j,j<l.length→done.getD j false=true:=by
  intro done a w S σ i hfree h hi hge j hj
  obtain⟨hun,p,hp,hwait⟩:=ss.1 hi
  have hp' :(l++t)[i]? =some p:=by simpa using hp
  have hcov:=(htail i p hge hp').1
  unfold qn at hcov
  have hre:=lz.1 hcov j (by simp;omega)
  exact eI h.down _ i j (fun q hq e he hb=>by
   have:q=p:=by rw [hp']at hq;simpa using hq.symm
   subst this
   exact hwait e he hb) hre
 intro fuel
 induction fuel with
 |zero=>
  intro done a w S σ hu hfree h
  exact fin 0 done a w S σ hu hfree h fun i hi=>oU hu (by rw [h.dsz,kN];omega)
 |succ fuel ih=>
  intro done a w S σ hu hfree h
  by_cases hall: ∀i,i<l.length→done.getD i false=true
  ·exact fin _ done a w S σ hu hfree h hall
  have hready0: ∀m i,i<m→i<l.length→Region.ready .any (l++t).toArray done=[]→done.getD i false=true:=by
   intro m
   induction m with
   |zero=>intro i h;omega
   |succ m ihm=>
    intro i him hil hr
    have his:i<done.size:=by rw [h.dsz,kN];omega
    by_cases hdn:done.getD i true=true
    ·rw [←lk his];exact hdn
    ·exfalso
     obtain⟨o,ho⟩: ∃o,(l++t)[i]? =some o:=⟨l[i],hL2 i _ (nT hil)⟩
     have hmem:i∈Region.ready .any (l++t).toArray done:=by
      rw [ss]
      refine⟨by simpa using hdn,o,by simpa using ho,fun e he hb=>?_⟩
      have:=hedge i o ho
      unfold dG at this
      have:=lz.1 this e (by simpa using he)
      simp only [hb,su,sv,pu]at this
      exact ihm e.on (by omega) (by omega) hr
     rw [hr]at hmem;cases hmem
  refine⟨fun hr=>absurd (fun i hi=>hready0 (i+1) i (by omega) hi hr) hall,fun i hi=>?_⟩
  have hil:i<l.length:=by
   rcases jP i l.length with h' |h'
   ·exact h'
   ·exact absurd (lower done a w S σ i hfree h hi h') hall
  obtain⟨hun,o,ho,hwait⟩:=ss.1 hi
  have ho' :(l++t)[i]? =some o:=by simpa using ho
  have hol:=hL1 i o hil ho'
  obtain⟨e,he,needs,u,h1,h2,h3,_,h4,h5⟩:=hget i o hol
  rw [mu]at h1 h3 h4
  have hF:=h.need ho' hun hwait h2 h3
  have his:i<done.size:=by rw [h.dsz,kN];omega
  have hun' :done.getD i false=false:=by rw [←lk his];exact hun
  have hu' :jf (done.setIfInBounds i true)=fuel:=by have:=mZ hun;omega
  have huq: ∀d,o.dst=some d→ ∀j p,(l++t)[j]? =some p→done.getD j false=true→p.dst=some d→i=j:=fun d hdd j p hj hjd hpd=>by
   rcases jP j l.length with h' |h'
   ·exact hs2 i j o p d hol (hL1 j p h' hj) hdd hpd
   ·rw [hfree j h']at hjd;cases hjd
  have hfree' : ∀j,l.length≤j→(done.setIfInBounds i true).getD j false=false:=fun j hj=>by
   rw [uB false (by omega)];exact hfree j hj
  have hbl:E.base≤w.heap.size:=h.ext.size
  have hwaits: ∀q,(l++t)[i]? =some q→ ∀e∈q.after,Region.binds .any e=true→done.getD e.on false=true:=fun q hq e he hb=>by
   have:q=o:=by rw [ho']at hq;simpa using hq.symm
   subst this
   exact hwait e he hb
  have hdpp: ∀k∈u.1,k=i∨done.getD k false=true:=fun k hk=>by
   have:=lz.1 h4 k hk
   simp only [iP,Bj]at this
   rcases this.2 with hb|hb
   ·exact .inl (mr hb)
   ·exact .inr (eI h.down _ i k hwaits hb)
  have hdNN: ∀d,o.dst=some d→d<E.N.n:=fun d hd=>(hs1 o (nV hol) d hd).1
  unfold wpOpIn
  rw [ho]
  show if _ then _ else _
  -- just these effects stand
  have hpos:Pg (l++t) es i (yW es done)=false:=by
   rw [Bool.eq_false_iff]
   intro hno
   unfold Pg at hno
   rw [Bj]at hno
   rcases hno with hc|hc
   ·have:=(tI.1 (Bp.1 hc)).2
    rw [this]at hun';cases hun'
   ·obtain⟨k,hk1,hk2⟩:=wI.1 hc
    have hke:es[k]? =some true:=by
     unfold wh at hk1
     rw [List.mem_filter,List.mem_range]at hk1
     have h7:=hk1.2
     rw [nT hk1.1]at h7 ⊢
     simpa using h7
    by_cases hin:(yW es done).contains k=true
    ·rw [dq hin,Bj]at hk2
     have hkd:=(tI.1 (Bp.1 hin)).2
     rcases hk2 with hb|hb
     ·have:=eI h.down _ k i (fun q hq e he hb=>h.down k q hq hkd e he hb) hb
      rw [this]at hun';cases hun'
     ·obtain⟨j,hj1,hj2⟩:=wI.1 hb
      rw [iP,wJ]at hj2
      have hje:es[j]? =some true:=by
       unfold wh at hj1
       rw [List.mem_filter,List.mem_range]at hj1
       have h7:=hj1.2
       rw [nT hj1.1]at h7 ⊢
       simpa using h7
      have hjd:=eI h.down _ k j (fun q hq e he hb=>h.down k q hq hkd e he hb) hj2.2
      have:=Bp.2 (tI.2 ⟨hje,hjd⟩)
      rw [hj2.1]at this;cases this
    ·rw [di hin]at hk2
     have hkd:=eI h.down _ i k hwaits hk2
     exact hin (Bp.2 (tI.2 ⟨hke,hkd⟩))
  have hwin: ∀aas:List (List Nat),Fp (l++t) es i aas=true→yW es done∈aas:=by
   intro aas hw
   unfold Fp at hw
   have:=lz.1 hw _ (HQ es done)
   rw [hpos,sv]at this
   obtain⟨b,hb1,hb2⟩:=wI.1 this
   rw [←DF hb2];exact hb1
  cases e with
  |false=>
   simp only at h5
   obtain⟨hdS,aas,hw,h5⟩:=h5
   rw [mu]at hw
   obtain⟨d,hdd⟩:=Option.isSome_iff_exists.1 hdS
   have h6:=h5.mem _ (hwin aas hw) σ a w S h.sat h.own hF
   have hdq:=Gq (done:=done) he
   by_cases hw:Region.wanted o (yielded (l++t).toArray a.tmps)=true
   ·rw [dq hw]at h6 ⊢
    refine iQ (fun a' w' ⟨v,S',ha,hx,hs,hv⟩=>?_) h6
    subst ha
    exact ih _ _ _ S' _ hu' hfree' (h.step ho' hdNN huq hwait h1 hun hdpp hx (fun _ hb=>hb.elim) hs (by rw [hdq];exact h.own.ext0 hx) (fun _ _=>rfl) hv)
   ·rw [di hw]at h6 ⊢
    exact⟨fun _ _=>trivial,ih _ _ _ S _ hu' hfree' (h.step ho' hdNN huq hwait h1 hun hdpp (eX mR _ _) (fun _ hb=>hb.elim) h.sat (by rw [hdq];exact h.own) (fun _ _=>rfl) h6)⟩
  |true=>
   simp only [mu]at h5
   obtain⟨aas,hw,hins,h5⟩:=h5
   obtain⟨p,hp1,hp2⟩:=List.mem_map.1 (hwin _ hw)
   have hp3:=DF (lz.1 hins p hp1)
   have h6:=h5.mem p hp1 σ a w S h.sat (by rw [hp2];exact h.own) hF hbl
   have hdq:yW es (done.setIfInBounds i true)=p.2:=by rw [J4 he his,←hp2,hp3]
   by_cases hw:Region.wanted o (yielded (l++t).toArray a.tmps)=true
   ·rw [dq hw]at h6 ⊢
    refine iQ (fun a' w' ⟨v,S',x,ha,hx,hs,hown,hv⟩=>?_) h6
    subst ha
    exact ih _ _ _ S' _ hu' hfree' (h.step ho' hdNN huq hwait h1 hun hdpp hx (fun b ⟨f,hf,hb⟩=>(dd.mem h.own f (by rw [←hp2];exact hf)).2 b hb) hs (by rw [hdq];exact hown) (fun k hk=>wR σ x hk) hv)
   ·rw [di hw]at h6 ⊢
    obtain⟨x,hown,hv⟩:=h6
    exact⟨fun _ _=>trivial,ih _ _ _ S _ hu' hfree' (h.step ho' hdNN huq hwait h1 hun hdpp (eX mR _ _) (fun _ hb=>hb.elim) h.sat (by rw [hdq];exact hown) (fun k hk=>wR σ x hk) hv)⟩
theorem CJ{id:Nat}(m:Nat)(ts:List TS)(es:List Bool)(Ss:Mu)(hO: ∀σ,GN Ss [] σ=O)(hm:E.P.follows .mixedOrders=true)(hsl:qS E.N.n [] (L.take m)=true)(hlen:ts.length=(L.take m).length)(hesl:es.length=(L.take m).length)(ht:sb L (L.take m).length (L.drop m).length=true)(hd:DT E G L ts Ss es 0 (L.take m) es)(k: ∀σ:Nat→OI,RG E L.toArray Q (L.drop m) (GN Ss (wh es) σ) (BM (L.take m) (Ih ts σ) G)):CG E Q (.region id L.toArray true) O G:=fun a w S st=>by
 have hL:L=L.take m++L.drop m:=(pw m L).symm
 generalize L.take m=l at hL hsl hlen hesl ht hd k
 generalize L.drop m=t at hL ht k
 subst hL
 refine wpIn_region_any hm ?_
 obtain⟨he,hs⟩:=rr (w:=w) st.sat
 have hdn0:yW es (Array.replicate (l++t).toArray.size false)=[]:=by
  unfold yW
  refine List.filter_eq_nil_iff.2 fun k hk=>?_
  simp [sy]
  intro _
  split<;>simp
 refine Br hsl hlen hesl hd ht (fun a w S σ st=>k σ a w S st) _ _ _ _ S (fun _=>rx) ?_ (fun j _=>?_)
  ⟨st.ext.step0 he,hs,by rw [hdn0,hO];exact st.own.ext0 he,st.facts.size,st.facts.defers,by simp,fun j o hj hdone=>?_,fun k t hk _=>st.facts.at_ k t hk,fun j o d t hj hdone=>?_,fun j p hdone=>?_⟩
 ·unfold jf;rw [D7,D4];simp
 ·simp [sy];split<;>rfl
 ·simp [sy]at hdone
  split at hdone<;>simp at hdone
 ·simp [sy]at hdone
  split at hdone<;>simp at hdone
 ·simp [sy]at hdone
  split at hdone<;>simp at hdone

theorem dd.perm(h:O.Perm O'):dd base B w S O→dd base B w S O' :=by
 induction h with
 |nil=>exact id
 |cons x p ih=>
  rintro⟨h1,h2,h3⟩
  exact⟨h1,fun f hf=>h2 f (p.mem_iff.2 hf),ih h3⟩
 |swap x y l=>
  rintro⟨h1,h2,h3,h4,h5⟩
  refine⟨h3,fun f hf k hk hfk=>?_,h1,fun f hf=>h2 f (ly _ hf),h5⟩
  rcases ia.1 hf with rfl|hf
  ·exact h2 x (lI ..) k hfk hk
  ·exact h4 f hf k hk hfk
 |trans _ _ ih1 ih2=>exact fun k=>ih2 (ih1 k)
def oX(O:List OE):List Nat→List OE
 |[]=>[]
 |i::l=>match O[i]? with
  |some e=>e::oX O l
  |none=>oX O l
theorem tE(O:List OE): ∀a b:List Nat,oX O (a++b)=oX O a++oX O b
 |[],_=>rfl
 |i::a,b=>by
  simp only [y6,oX]
  split<;>simp [tE O a b]
theorem Dg{a b:List Nat}(h:a.Perm b):(oX O a).Perm (oX O b):=by
 induction h with
 |nil=>exact .nil
 |cons x p ih=>
  simp only [oX]
  split
  ·exact .cons _ ih
  ·exact ih
 |swap x y l=>
  simp only [oX]
  cases hx:O[x]? <;>cases hy:O[y]? <;>simp<;>exact .swap ..
 |trans _ _ ih1 ih2=>exact ih1.trans ih2
theorem BJ(O:List OE):oX O (List.range O.length)=O:=by
 have key: ∀n,n≤O.length→oX O (List.range n)=O.take n:=by
  intro n
  induction n with
  |zero=>intro _;rfl
  |succ n ih=>
   intro h
   rw [List.range_succ,tE,ih (by omega)]
   simp only [oX]
   rw [nT (by omega),GQ (by omega)]
 rw [key _ (fQ _),Ac]
theorem dd.pick(l:List Nat)(hl:l.isPerm (List.range O.length)=true)(h:dd base B w S O):dd base B w S (oX O l):=
 h.perm (by
  have:=Dg (O:=O) (List.isPerm_iff.1 hl)
  rw [BJ]at this
  exact this.symm)

section
section
variable{ty:TypeId}
end
theorem n5{ty:TypeId}{l:Option Nat}{o:Nat}(hm:iZ mm r U l cap xs∈O)(hy:eZ xs j=some y)(hp:ay E.N G p (tV (iG l o))):
  bU E O G ⟨dst,.nilCheck p,ty,pos,after,g⟩ (tV (iG l o)):=
 .of_pure fun a w S _ ho hF=>by
  have h1:a.eval p=iG l o:=hp S a hF
  obtain⟨_,hy'⟩:=iy hy
  obtain⟨b,cur,rfl,_⟩:=mC (ho.mem _ hm).1 hy'
  exact⟨iG (some b) o,by simp [execOp,h1,iG,aD],rfl⟩
end
open Go.ChangeShapes Go.WideShapes Go.ChangeAt

variable{W:World}
section
variable{H:Type}{enc:TypeId×Value→H}
def BW(W:World):SH:=fun b=>W.heap[b]?
theorem Lj(W:World)(hg: ∀p∈glob,∃c T fr,W.heap[p.1]? =some (.cells c T fr)∧c.toList.take p.2.length=p.2)(ht: ∀w' :World,(∀(b:Nat) (o:Obj),W.heap[b]? =some o→ ∃o',w'.heap[b]? =some o' ∧yx o o')→Fw w'):ga W (BW W):=⟨fun _ o h=>⟨o,h,oD o⟩,hg,ht⟩
def qI(enc:TypeId×Value→H)(P:Program)(W:World){α:Type}(t:TypeId)(r:Rp α):Prop:=
 P.cellsOf t=r.sz∧ ∀fuel cs x,DataW.trod enc P W 0 (fun _=>true) true fuel t cs=some x→ ∃y,r.rc (BW W) cs y
theorem GX(h:P.underlying t=some .bool)(hc:P.cellsOf t=1):qI enc P W t rB:=⟨hc,fun fuel cs x hx=>by
 cases fuel with
 |zero=>simp [DataW.trod]at hx
 |succ n=>
  unfold DataW.trod at hx
  rw [h]at hx
  split at hx
  all_goals try (injections;done)
  ·exact⟨_,rfl⟩⟩
theorem pD{α β:Type}{f:α→Option β}: ∀{l:List α} {r:List β},l.mapM f=some r→r.length=l.length∧ ∀(i:Nat) (x:α),l[i]? =some x→ ∃y,r[i]? =some y∧f x=some y
 |[],r,h=>by
  simp at h
  subst h
  exact⟨rfl,fun i x hx=>by simp at hx⟩
 |a::l,r,h=>by
  rw [List.mapM_cons]at h
  cases hf:f a with
  |none=>rw [hf]at h;simp at h
  |some b=>
   rw [hf]at h
   cases hm:l.mapM f with
   |none=>rw [hm]at h;simp at h
   |some r' =>
    rw [hm]at h
    simp at h
    subst h
    obtain⟨h1,h2⟩:=pD hm
    refine⟨by simp [h1],fun i x hx=>?_⟩
    cases i with
    |zero=>simp at hx;subst hx;exact⟨b,rfl,hf⟩
    |succ i=>exact h2 i x (by simpa using hx)
theorem u9{a:Addr}(h:W.cell? a=some v):a.spot=none∧ ∃c E fr,W.heap[a.block]? =some (.cells c E fr)∧c[a.off]? =some v:=by
 unfold World.cell? at h
 cases ho:W.heap[a.block]? with
 |none=>rw [ho]at h;cases h
 |some o=>
  rw [ho]at h
  cases o with
  |cells c E fr=>
   simp only at h
   by_cases hs:a.spot.isSome=true
   ·rw [dq hs]at h;cases h
   ·rw [di hs]at h
    exact⟨by cases hq:a.spot with
     |none=>rfl
     |some s=>rw [hq]at hs;simp at hs,c,E,fr,rfl,h⟩
  |_=>simp at h
theorem zU(a:Addr):a.add 0=a:=by unfold Addr.add;rfl
theorem DN(h:W.cells? 0 ⟨b,off,none⟩ n=some cs)(hn:0<n): ∃c E fr,W.heap[b]? =some (.cells c E fr)∧cs=(c.toList.drop off).take n:=by
 unfold World.cells? at h
 rw [dq (jM _)]at h
 obtain⟨h1,h2⟩:=pD h
 obtain⟨v,_,hv⟩:=h2 0 0 (by simp [hn])
 obtain⟨_,c,E,fr,h3,h4⟩:=u9 hv
 refine⟨c,E,fr,by simpa [Addr.add] using h3,?_⟩
 apply Bo
 intro i
 have hl:cs.length=n:=by simpa using h1
 by_cases hi:i<n
 ·obtain⟨v,h5,h6⟩:=h2 i i (by simp [hi])
  obtain⟨_,c',E',fr',h7,h8⟩:=u9 h6
  rw [fO]at h7 h8
  have h7' :W.heap[b]? =some (.cells c' E' fr'):=h7
  have h3' :W.heap[b]? =some (.cells c E fr):=by simpa [Addr.add] using h3
  rw [h3']at h7'
  injection h7' with h7'
  injection h7' with e1
  subst e1
  rw [h5,uD hi,qE]
  simpa using h8.symm
 ·rw [CT (by omega),CT (by simp;omega)]
theorem Fu{q:Rp α}{len:Nat}{a:Addr}{x:DataW H×List MemPlace}(h0' :0<q.sz)(hq:qI enc P W e q)(hx:(let elemAt (i:Nat):Option (DataW H×List MemPlace):=(W.cells? 0 (a.add (i*P.cellsOf e)) (P.cellsOf e)).bind (DataW.trod enc P W 0 (fun _=>true) true n e)
   if 0≤a.block∧len≤cap∧cap≤maxLen then
    ((List.range len).mapM elemAt).bind fun elems=>
     (if(fun _=>true) a.block then(List.range (cap-len)).mapM fun j=>elemAt (len+j)else some []).map fun rest=>
      (DataW.slice (elems.map (·.1)) (rest.map (·.1)),MemPlace.row a ((elems.length+rest.length)*P.cellsOf e)++(elems++rest).flatMap (·.2))
   else none)=some x): ∃y,(dE q).rc (BW W) [.slice (some a) len cap] y:=by
 simp only at hx
 split at hx
 ·rename_i hcond
  obtain⟨_,hle,hmax⟩:=hcond
  cases hm:(List.range len).mapM (fun i=>(W.cells? 0 (a.add (i*P.cellsOf e)) (P.cellsOf e)).bind (DataW.trod enc P W 0 (fun _=>true) true n e))with
  |none=>rw [hm]at hx;simp at hx
  |some elems=>
   obtain⟨hm1,hm2⟩:=pD hm
   rw [hq.1]at hm2
   by_cases hl0:len=0
   ·subst hl0;exact⟨[],some a,cap,rfl,jM _,hmax,.inl rfl⟩
   have hsp0:a.spot=none:=by
    obtain⟨z,_,hz⟩:=hm2 0 0 (by rw [List.getElem?_range (by omega)])
    rw [Nat.zero_mul,zU]at hz
    cases hcs:W.cells? 0 a q.sz with
    |none=>rw [hcs]at hz;simp at hz
    |some cs1=>
     unfold World.cells? at hcs
     rw [dq (jM _)]at hcs
     obtain⟨_,g2⟩:=pD hcs
     obtain⟨v,_,hv⟩:=g2 0 0 (by simp [h0'])
     rw [zU]at hv
     exact(u9 hv).1
   have hcell: ∀i,i<len→ ∃c E fr,a.spot=none∧W.heap[a.block]? =some (.cells c E fr)∧ ∃y,q.rc (BW W) ((c.toList.drop (a.off+i*q.sz)).take q.sz) y:=by
    intro i hi
    obtain⟨z,_,hz⟩:=hm2 i i (by simp [hi])
    cases hcs:W.cells? 0 (a.add (i*q.sz)) q.sz with
    |none=>rw [hcs]at hz;simp at hz
    |some cs1=>
     rw [hcs]at hz
     have hsp:a.spot=none:=hsp0
     obtain⟨ab,ao,az⟩:=a
     simp only at hsp
     subst hsp
     rw [fO]at hcs
     obtain⟨c,E,fr,g1,g2⟩:=DN hcs h0'
     obtain⟨y,hy⟩:=hq.2 n cs1 z hz
     exact⟨c,E,fr,rfl,g1,y,by rw [←g2];exact hy⟩
   obtain⟨c,E,fr,hsp,hb,_⟩:=hcell 0 (by omega)
   have key: ∀m,m≤len→ ∃ys:List α,ys.length=m∧nN q (BW W) ((c.toList.drop a.off).take (m*q.sz)) ys:=by
    intro m
    induction m with
    |zero=>intro _;exact⟨[],rfl,by simp [nN]⟩
    |succ m ih=>
     intro hm'
     obtain⟨ys,hy1,hy2⟩:=ih (by omega)
     obtain⟨c',E',fr',_,hb',y,hy⟩:=hcell m (by omega)
     rw [hb]at hb'
     injection hb' with hb'
     injection hb' with e1
     subst e1
     refine⟨ys++[y],by simp [hy1],?_⟩
     have hsplit:(c.toList.drop a.off).take ((m+1)*q.sz)=(c.toList.drop a.off).take (m*q.sz)++(c.toList.drop (a.off+m*q.sz)).take q.sz:=by
      rw [qB,Nat.one_mul,List.take_add,pP]
     rw [hsplit]
     exact oy hy2 (Df.2 hy)
   obtain⟨ys,hy1,hy2⟩:=key len (fQ _)
   obtain⟨ab,ao,az⟩:=a
   simp only at hsp
   subst hsp
   exact⟨ys,some ⟨ab,ao,none⟩,cap,by rw [hy1],by omega,hmax,.inr ⟨ab,ao,c,E,fr,rfl,hb,by rw [hy1];exact hy2⟩⟩
 ·cases hx
theorem ld{q:Rp α}(h:P.underlying t=some (.slice e))(hc:P.cellsOf t=1)(h0:Nat.blt 0 q.sz=true)(hq:qI enc P W e q):qI enc P W t (dE q):=⟨hc,fun fuel cs x hx=>by
 have h0' :0<q.sz:=by simpa [pu] using h0
 cases fuel with
 |zero=>simp [DataW.trod]at hx
 |succ n=>
  unfold DataW.trod at hx
  rw [h]at hx
  split at hx
  all_goals try (injections;done)
  ·exact⟨[],none,0,rfl,fQ _,jM _,.inl rfl⟩
  ·rename_i e' a len cap heq
   injection heq with e1
   injection e1 with e1
   subst e1
   exact Fu h0' hq hx⟩
def Kr(enc:TypeId×Value→H)(P:Program)(W:World){α:Type}(off:Nat)(l:List (TypeId×Nat))(r:Rp α):Prop:=
 ∀(fuel:Nat) (cs:List Value),cs.length=off+r.sz→(∀f∈l,∃x,DataW.trod enc P W 0 (fun _=>true) true fuel f.1 ((cs.drop f.2).take (P.cellsOf f.1))=some x)→ ∃y,r.rc (BW W) (cs.drop off) y
theorem k5{t:Nat}(h:qI enc P W t r):Kr enc P W off [(t,off)] r:=fun fuel cs hl hx=>by
 obtain⟨x,hx⟩:=hx _ (List.mem_singleton_self _)
 simp only at hx
 rw [h.1,sx (by simp;omega)]at hx
 exact h.2 _ _ _ hx
theorem db{p:Rp α}{t off' :Nat}{l:List (TypeId×Nat)}(h:qI enc P W t p)(ho:off' =off+p.sz)(hr:Kr enc P W off' l q):Kr enc P W off ((t,off)::l) (bN p q):=fun fuel cs hl hx=>by
 subst ho
 obtain⟨x,hx1⟩:=hx _ (lI ..)
 simp only at hx1
 rw [h.1]at hx1
 obtain⟨y,hy⟩:=h.2 _ _ _ hx1
 obtain⟨z,hz⟩:=hr fuel cs (by rw [hl];show off+(p.sz+q.sz)=_;omega) fun f hf=>hx f (ly _ hf)
 exact⟨(y,z),_,_,by rw [←pP];exact(pw _ _).symm,hy,hz⟩
theorem im{l:List (TypeId×Nat)}{p:Rp α}(ht:(P.underlying t).map (fun d=>match d with| .struct l=>(true,l.toList.map fun f=>(f.type,f.offset))|_=>(false,[]))=some (true,l))(hc:P.cellsOf t=p.sz)(hf: ∀y,∃x,f x=y)(hl:Kr enc P W 0 l p):qI enc P W t (jx p f):=⟨hc,fun fuel cs x hx=>by
 obtain⟨fs,h1,h2⟩: ∃fs,P.underlying t=some (.struct fs)∧fs.toList.map (fun f=>(f.type,f.offset))=l:=by
  cases hu:P.underlying t with
  |none=>rw [hu]at ht;cases ht
  |some d=>
   rw [hu]at ht
   cases d<;>simp at ht
   exact⟨_,rfl,ht⟩
 cases fuel with
 |zero=>simp [DataW.trod]at hx
 |succ n=>
  unfold DataW.trod at hx
  rw [h1]at hx
  change (if cs.length=P.cellsOf t then(fs.toList.mapM fun f=>DataW.trod enc P W 0 (fun _=>true) true n f.type ((cs.drop f.offset).take (P.cellsOf f.type))).map (fun xs=>(DataW.agg (xs.map (·.1)),xs.flatMap (·.2)))else none)=some x at hx
  split at hx
  ·rename_i hlen
   cases hm:fs.toList.mapM (fun f=>DataW.trod enc P W 0 (fun _=>true) true n f.type ((cs.drop f.offset).take (P.cellsOf f.type)))with
   |none=>rw [hm]at hx;simp at hx
   |some r=>
    obtain⟨_,hm2⟩:=pD hm
    obtain⟨y,hy⟩:=hl n cs (by rw [hlen,hc];omega) (fun g hg=>by
     rw [←h2,List.mem_map]at hg
     obtain⟨f0,hf0,rfl⟩:=hg
     obtain⟨i,hi⟩:=CS hf0
     obtain⟨z,_,hz⟩:=hm2 i f0 hi
     exact⟨z,hz⟩)
    obtain⟨x',hx'⟩:=hf y
    refine⟨x',?_⟩
    show p.rc _ cs (f x')
    rw [hx']
    simpa using hy
  ·cases hx⟩
theorem A6{W' :World}(h:eS mR W S W' S'):Below W.heap.size W W' :=⟨h.os,h.tape,h.output,h.size,fun k hk=>h.heap k hk (fun h=>h)⟩
theorem r0(hl:laidOutB P=true){W W' :World}(hb:Below W.heap.size W W'){sp:Nat→Bool}: ∀{ts:List TypeId} {vs:List Value} {ds:List (DataW H)} {ps:List MemPlace},(∀t∈ts,P.readableRec t=true∧t<P.types.size)→
  DataW.TrodAll enc P W 0 (fun _=>true) true ts vs ds ps→(∀p∈ps,p.block<W.heap.size)→(∀p∈ps,sp p.block=true)→DataW.TrodAll enc P W' 0 sp true ts vs ds ps
 |[],[],[],_,_,h,_,_=>h
 |t::ts,v::vs,d::ds,_,hr,⟨p,q,h1,h2,e⟩,hlt,hsp=>by
  subst e
  have ht:=hr t (lI ..)
  exact⟨p,q,WideElems.Trod_stays hl ht.1 ht.2 h1 (fun x hx=>hb.same (hlt x (Fh _ hx))) (fun x hx=>hsp x (Fh _ hx)),
   r0 hl hb (fun t ht=>hr t (ly _ ht)) h2 (fun x hx=>hlt x (List.mem_append_right _ hx)) (fun x hx=>hsp x (List.mem_append_right _ hx)),rfl⟩
theorem Ho{f:Func}{s:ChangeSpec}{apart fresh handsOn again:Bool}{W' :World}{args:Array Value}{ds gs:List (DataW H)}{before:List MemPlace}{tb:TypeId}(hl:laidOutB P=true)(hr: ∀t∈f.params.toList,P.readableRec t=true∧t<P.types.size)(hvs:s.vars=[])(hres:f.resultTypes= #[tb])(htb:P.underlying tb=some .bool)(hW:DataW.Whole enc P f.params.toList s.vars apart W args.toList ds gs before)(hs:s.fn H (ds++gs)={results:=[.lit (.bool true)],args:=ds})(hb:Below W.heap.size W W'):
  s.post enc P f apart fresh handsOn again W args (.bool true) W' :=by
 have hW0:=hW
 have hlt:=hW.lt
 obtain⟨pa,pv,hA,hV,rfl,hz,hn⟩:=hW
 rw [hvs]at hV
 have hpv:pv=[]:=by
  cases gs with
  |nil=>exact hV
  |cons g gs=>exact hV.elim
 subst hpv
 have hlt' : ∀p∈pa,p.block<W.heap.size:=fun p hp=>hlt p (by simpa using hp)
 have hargs: ∀sp:Nat→Bool,(∀p∈pa,sp p.block=true)→DataW.TrodAll enc P W' 0 sp true f.params.toList args.toList ds pa:=fun sp hsp=>r0 hl hb hr hA hlt' hsp
 have hresT: ∀(b:Nat) (sp:Nat→Bool) (hd:Bool),DataW.TrodAll enc P W' b sp hd f.resultTypes.toList ((Value.bool true).resultList f.resultTypes.size) [.lit (.bool true)] []:=fun b sp hd=>by
  rw [hres]
  exact⟨[],[],⟨1,by simp [DataW.trod,htb,Value.cells]⟩,rfl,rfl⟩
 have hvT: ∀sp:Nat→Bool,DataW.TrodVars enc P W' sp s.vars (s.fn H (ds++gs)).vars []:=fun sp=>by
  rw [hvs,hs];rfl
 have hargs' : ∀sp:Nat→Bool,(∀p∈pa,sp p.block=true)→DataW.TrodAll enc P W' 0 sp true f.params.toList args.toList (s.fn H (ds++gs)).args pa:=fun sp hsp=>by rw [hs];exact hargs sp hsp
 have hres' : ∀(b:Nat) (sp:Nat→Bool) (hd:Bool),DataW.TrodAll enc P W' b sp hd f.resultTypes.toList ((Value.bool true).resultList f.resultTypes.size) (s.fn H (ds++gs)).results []:=fun b sp hd=>by rw [hs];exact hresT b sp hd
 have hold: ∀p∈pa,(fun b=>decide (b<W.heap.size)) p.block=true:=fun p hp=>by simpa using hlt' p hp
 refine⟨ds,gs,pa++[],[],pa,[],hW0,hres' _ _ _,hargs' _ hold,hvT _,World.keptBut_mono (fun p hp=>⟨hp,?_⟩) (hb.frame _),fun _=>?_⟩
 ·right;simpa using hp
 ·refine⟨?_,_,_,([]++pa)++[],⟨[]++pa,[],trodAll_append (hargs' _ (fun _ _=>rfl)) (hres' _ _ _),hvT _,rfl,?_,?_⟩,?_⟩
  ·intro j t r h1 h2
   rw [hres]at h1 h2
   cases j with
   |zero=>
    simp [Value.resultList]at h1 h2
    subst h1 h2
    simp [Value.okWide,htb,Cell.okWide,Cell.ok]
   |succ j=>simp at h1
  ·intro b off hp
   have hp' :MemPlace.cell b off∈pa:=by simpa using hp
   have:=hlt' _ hp'
   rw [hb.frozen (p:=⟨b,off,none⟩) this]
   exact hz b off (by simpa using hp')
  ·intro ha
   have:=hn ha
   simpa using this
  ·intro p hp _
   simpa using hp
end

section
variable{H:Type}{enc:TypeId×Value→H}
def qH{α:Type}(r:Rp α)(ok:α→Prop):Rp α where
 sz:=r.sz
 agg:=r.agg
 rc:=fun S cs x=>r.rc S cs x∧ok x
 mono:=fun h k=>⟨r.mono h k.1,k.2⟩
 len:=fun k=>r.len k.1
 one:=fun k=>r.one k.1
 sc:=r.sc
def oF(k:IntKind)(n:Int):Prop:=k.min≤n∧n≤k.max
def KA(s:ji):Prop:=s.length≤maxLen
def F9{α:Type}(ok:α→Prop)(xs:List α):Prop:=xs.length≤maxLen∧ ∀x∈xs,ok x
def Mr{α:Type}(_:α):Prop:=True
theorem wS(h:P.underlying t=some (.int k))(hc:P.cellsOf t=1):qI enc P W t (qH (rI k) (oF k)):=⟨hc,fun fuel cs x hx=>by
 cases fuel with
 |zero=>simp [DataW.trod]at hx
 |succ n=>
  unfold DataW.trod at hx
  rw [h]at hx
  split at hx
  all_goals try (injections;done)
  ·rename_i k1 k2 m heq
   injection heq with e
   injection e with e
   subst e
   split at hx
   ·rename_i h2
    obtain⟨rfl,h3⟩:=h2
    simp only [Lit.wf,iP,wM]at h3
    exact⟨m,rfl,h3⟩
   ·cases hx⟩
theorem GW(h:P.underlying t=some .string)(hc:P.cellsOf t=1):qI enc P W t (qH rS KA):=⟨hc,fun fuel cs x hx=>by
 cases fuel with
 |zero=>simp [DataW.trod]at hx
 |succ n=>
  unfold DataW.trod at hx
  rw [h]at hx
  split at hx
  all_goals try (injections;done)
  ·rename_i s heq
   split at hx
   ·rename_i h2;exact⟨s.data.toList,rfl,(show s.data.toList.length≤maxLen from(show s.size=s.data.toList.length from rfl)▸h2)⟩
   ·cases hx⟩
theorem Fv(h:P.underlying t=some .bool)(hc:P.cellsOf t=1):qI enc P W t (qH rB Mr):=
 ⟨hc,fun fuel cs x hx=>by obtain⟨y,hy⟩:=(GX (enc:=enc) (W:=W) h hc).2 fuel cs x hx;exact⟨y,hy,trivial⟩⟩
def yZ{α:Type}(r' r:Rp α)(ok:α→Prop):Prop:=r'.sz=r.sz∧r'.agg=r.agg∧ ∀S cs x,r'.rc S cs x→r.rc S cs x∧ok x
theorem gC:yZ (qH r ok) r ok:=⟨rfl,rfl,fun _ _ _ h=>h⟩
theorem El{α:Type}{r' r:Rp α}{ok:α→Prop}(h:yZ r' r ok){S:SH}: ∀{xs:List α} {cs:List Value},nN r' S cs xs→nN r S cs xs∧ ∀x∈xs,ok x
 |[],_,k=>⟨k,fun x hx=>by cases hx⟩
 |x::xs,_,⟨a,b,e,h1,h2⟩=>by
  obtain⟨g1,g2⟩:=h.2.2 _ _ _ h1
  obtain⟨g3,g4⟩:=El h h2
  exact⟨⟨a,b,e,g1,g3⟩,fun y hy=>by
   rcases ia.1 hy with rfl|hy
   ·exact g2
   ·exact g4 y hy⟩
theorem nL{r' :Rp α}(h:yZ r' r ok):yZ (dE r') (dE r) (F9 ok):=⟨rfl,rfl,fun S cs xs ⟨a,cap,e,h1,h2,h3⟩=>by
 rcases h3 with h3|⟨b,off,c,E,fr,e1,e2,e3⟩
 ·exact⟨⟨a,cap,e,h1,h2,.inl h3⟩,by omega,fun x hx=>by rw [h3]at hx;cases hx⟩
 ·rw [h.1]at e3
  obtain⟨g1,g2⟩:=El h e3
  exact⟨⟨a,cap,e,h1,h2,.inr ⟨b,off,c,E,fr,e1,e2,g1⟩⟩,by omega,g2⟩⟩
theorem dI{p' p:Rp α}{q' :Rp β}{f:α→Prop}{g:β→Prop}(h:yZ p' p f)(k:yZ q' q g):yZ (bN p' q') (bN p q) (fun x=>f x.1∧g x.2):=
 ⟨by show p'.sz+q'.sz=p.sz+q.sz;rw [h.1,k.1],rfl,fun S cs x ⟨a,b,e,h1,h2⟩=>⟨⟨a,b,e,(h.2.2 _ _ _ h1).1,(k.2.2 _ _ _ h2).1⟩,(h.2.2 _ _ _ h1).2,(k.2.2 _ _ _ h2).2⟩⟩
theorem mB{p' p:Rp α}(h:yZ p' p ok):yZ (jx p' f) (jx p f) (fun x=>ok (f x)):=
 ⟨h.1,rfl,fun S cs x k=>h.2.2 _ _ _ k⟩
theorem E2{r' :Rp α}(h:qI enc P W t r')(hr:yZ r' r ok)(hag:r.agg=true){d:DataW H}{ps:List MemPlace}(hv:DataW.Trod enc P W 0 (fun _=>true) true t v d ps)(hc:v= .agg v.cells): ∃y,(tD r y).p (BW W) v∧ok y:=by
 obtain⟨fuel,hx⟩:=hv
 obtain⟨y,hy⟩:=h.2 _ _ _ hx
 obtain⟨g1,g2⟩:=hr.2.2 _ _ _ hy
 exact⟨y,⟨_,by unfold Rp.val;rw [hag,dq rfl];exact hc,g1⟩,g2⟩
theorem uh{l:Array Field}(ht:P.underlying t=some (.struct l))(hv:Value.okWide P W .any base t v):v= .agg v.cells:=by
 unfold Value.okWide at hv
 rw [ht]at hv
 obtain⟨cs,e,_⟩:=hv
 rw [e]
 rfl
end
end Go.Proofs.YtmogpgcfognefaaGreatDoor

