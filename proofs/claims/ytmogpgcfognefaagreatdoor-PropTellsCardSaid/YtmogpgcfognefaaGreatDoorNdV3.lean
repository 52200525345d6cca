/- di of this claim: W30, W31, W32, W33, W34, W35, W36, W37, W38, W39, W40, W48, W50, W51, W41, W42, W43, W21. -/
import Derived.Test.YtmogpgcfognefaaGreatDoorNdV2
import Derived.Scope
import Derived.ChangeKeysEq
import Derived.Lib.Bytealg
import Derived.Maps.Range
import Derived.Laws.IdiomRangeMap
import Derived.Test.YtmogpgcfognefaaGreatDoorNdV1
import Derived.Laws.BytesString
import Derived.Below
import Derived.ProofKit
set_option linter.all false
namespace Go.Proofs.YtmogpgcfognefaaGreatDoor
open Go

def CK(tmps:Array Value):ResultVar→Sem Value
 | .tmp t=>pure (tmps.getD t undef)
 | .cell a t=>do loadVar t (←asAddr (tmps.getD a undef))
def Te(P:Program)(N:Fr)(G:mr)(rv:ResultVar)(t:Ty):Prop:= ∀a w S,jp w S→di N S a G→ ∃v,(CK a.tmps rv).run P w= .ok v w∧t.p S v
variable{G:mr}{N:Fr}{P:Program}{S:SH}{T U:TypeId}{a:Act}{agg:Bool}{α:Type}{b bytes:Nat}{c:Code}{k:IntKind}{off:Nat}{r:Rp α}{sz:Nat}{w:World}{x:Operand}{z:List Value}
theorem rK{k:Nat}{x:α}(ti:TI P T sz bytes agg z)(hsz:r.sz=sz)(hag:r.agg=agg)(hk:look G k=some (bF r x)):Te P N G (.cell k T) (tD r x):=fun a w S hs hf=>by
 obtain⟨b,off,c,U,fr,h1,h2,h3⟩:=hf.at_ k _ hk
 obtain⟨c',h4,h5⟩:=hs.part h2 (r.len h3)
 rw [←h5]at h3
 have hl:=mC ti h4 hsz hag h3
 have h1' :a.tmps[k]?.getD undef=Value.pointer (some ⟨b,off,none⟩):=by simpa [G7] using h1
 exact⟨_,by simp [CK,h1',asAddr,hl],_,rfl,h3⟩
def Py(P:Program)(N:Fr)(G:mr):List ResultVar→List Ty→Prop
 |[],[]=>True
 |rv::rvs,t::ts=>Te P N G rv t∧Py P N G rvs ts
 |_,_=>False
variable{t:TypeId}{v:Value}
theorem Py.run(hs:jp w S)(hf:di N S a G): ∀{rvs:List ResultVar} {ts:List Ty},Py P N G rvs ts→ ∃vs,(rvs.mapM (CK a.tmps)).run P w= .ok vs w∧vO S ts vs∧vs.length=rvs.length
 |[],[],_=>⟨[],rfl,trivial,rfl⟩
 |rv::rvs,t::ts,⟨h1,h2⟩=>by
  obtain⟨v,g1,g2⟩:=h1 a w S hs hf
  obtain⟨vs,k1,k2,k3⟩:=Py.run hs hf h2
  exact⟨v::vs,by simp [List.mapM_cons,g1,k1,Result.andThen],⟨g2,k2⟩,by simp [k3]⟩
variable{B:Nat→Prop}{O:List OE}{e:TypeId}
theorem G0{N:Nat}{w0:World}{S0:SH}{fn:Func}{rvs:List ResultVar}{ts:List Ty}(hr:fn.results=rvs.toArray)(h1:Nat.beq rvs.length 1=false)(h:Py P ⟨N,[]⟩ G rvs ts):
  AT ⟨P,⟨N,[]⟩,B,w0,S0,none⟩ (bodyPost P fn (GG ⟨P,⟨N,[]⟩,B,w0,S0,none⟩ (tT ts))) .ret O G:=fun a w S st=>by
 obtain⟨vs,k1,k2,k3⟩:=h.run st.sat st.facts
 have hne: ¬vs.length=1:=by rw [k3];intro e;rw [e]at h1;cases h1
 refine⟨st.facts.defers,.tuple vs.toArray,?_,_,S,rfl,st.ext,st.sat,vs,rfl,k2⟩
 have e1:(fn.results.mapM (CK a.tmps)).run P w= .ok vs.toArray w:=by
  rw [hr,List.mapM_toArray,Sem.run_map,k1]
  rfl
 have e3:results fn a.tmps=((fn.results.mapM (CK a.tmps))>>=fun vs=>pure (if h:vs.size=1 then vs[0]else .tuple vs)):=rfl
 rw [e3,r0,e1]
 simp [Result.andThen,hne]

variable{cap:Nat}{cs:List Value}{p:Operand}{xs:List α}
theorem N6(h:(tD (eX r) xs).p S v):(eX r).rc S [v] xs:=by
 obtain⟨cs,e,h2⟩:=h
 obtain⟨a,cap,e2,h3⟩:=h2
 subst e2
 rw [e]
 exact⟨a,cap,rfl,h3⟩
variable{E:En}{S' :SH}{V:TypeId}{after:Array Edge}{base:Nat}{dst:Option Tmp}{g:Option (Nat×Bool)}{β:Type}{n:Nat}{o:Oper}{pos:String}{q:Rp β}{y:α}
section
variable{ty:TypeId}
theorem fa{r:Rp β}{get:β→Value}{x:β}{l:Option Nat}(ti:TI E.P U 1 bytes false z)(hget:lQ r off rV get)(hm:bx r T b x∈O)(hv:get x=aD l cap n)(hp:aL E.N G p (tV (aN b off))):
  cO E O G ⟨dst,.load U p,ty,pos,after,g⟩ (tV (aD l cap n)):=(bl (q:=rV) ti rfl rfl hget hm hp).imp fun _ _ h=>by rw [←hv];exact(yX.1 h).1
theorem j8{q:Rp α}{r:Rp β}{get:β→Value}{x:β}{l:Option Nat}(ti:TI E.P U 1 bytes false z)(hget:lQ r off rV get)(hm:bx r T b x∈O)(hm2:jx q V l cap xs∈O)(hv:get x=aD l cap xs.length)(hp:aL E.N G p (tV (aN b off))):
  cO E O G ⟨dst,.load U p,ty,pos,after,g⟩ (tO q l cap xs):=fun a w S hs ho hf=>
 nJ (fun _ _ ⟨v,S',h1,h2,h3,h4⟩=>⟨v,S',h1,h2,h3,h4,by
  have h5:v=aD l cap xs.length:=h4
  rw [h5]
  exact oh (((ho.ext0 h2).mem _ hm2).1)⟩) (fa (g:=g) (ty:=ty) (pos:=pos) (after:=after) (dst:=dst) ti hget hm hv hp a w S hs ho hf)
theorem cr{i o:Nat}(hf:cG E.P T i=some (off,sz))(h0:Nat.beq sz 0=false)(hp:aL E.N G p (tV (aN b o)))(he:o+off=n):cO E O G ⟨dst,.fieldAddr T p i,ty,pos,after,g⟩ (tV (aN b n)):=by
 subst he
 exact Ek hf h0 hp
theorem nd{q:Rp α}{r:Rp β}{x:β}(ti:TI E.P U sz bytes agg z)(hsz:q.sz=sz)(hag:q.agg=agg)(hag2:r.agg=agg)(hsz2:r.sz=sz)(hm:bx r T b x∈O)(hc: ∀w S cs,ee E.base E.B w S O→r.rc S cs x→q.rc S cs y)(hp:aL E.N G p (tV (aN b 0))):
  cO E O G ⟨dst,.load U p,ty,pos,after,g⟩ (tD q y):= .of_pure fun a w S _ ho hf=>by
 have h1:a.eval p=aN b 0:=hp S a hf
 obtain⟨⟨_,cur,h5,h6⟩,_⟩:=ho.mem _ hm
 have h7:=hc w S _ ho h6
 have hl:=q.len h7
 have h8:q.rc S ((cur.toList.drop 0).take q.sz) y:=by rw [sa,vg (by omega)];exact h7
 exact⟨_,by simp [execOp,h1,aN,Instr.loadAt,Instr.sureAddr,mC ti h5 hsz hag h8],_,rfl,h8⟩
theorem jl{q:Rp α}{l:Option Nat}(ho:ee base B w S O)(hm:jx q V l cap xs∈O):(eX q).rc S [aD l cap xs.length] xs:=N6 (oh (ho.mem _ hm).1)
end
def pe{α β γ:Type}(r:Rp α)(r' :Rp γ)(off:Nat)(q:Rp β)(x:α)(y:β)(x' :γ):Prop:= ∀S cs ds,r.rc S cs x→q.rc S ds y→r'.rc S (cs.take off++ds++cs.drop (off+q.sz)) x'
variable{set:α→β→α}
theorem N7{x:α}{y:β}(h:gP r off q set):pe r r off q x y (set x y):=fun S cs ds h1 h2=>h S cs x ds y h1 h2
variable{γ:Type}{r' :Rp γ}
theorem iX{x:α}{y:γ}(hs:r.sz=r'.sz):pe r r' 0 r' x y y:=fun S cs ds h1 h2=>by
 have hl:=r.len h1
 rw [List.take_zero,nv,vf (by omega),z8]
 exact h2
variable{u:Rp γ}{x1:OE}
theorem FT{α' :Type}{p:Rp α}{p' :Rp α'}{x:α×β}{y:γ}{x1:α'}(h:pe p p' 0 u x.1 y x1)(hu:Nat.ble u.sz p.sz=true):pe (co p q) (co p' q) 0 u x y (x1,x.2):=fun S cs ds ⟨a,b,e,h1,h2⟩ hd=>by
 have hl:=p.len h1
 have hu' :=qc hu
 have h3:=h S a ds h1 hd
 subst e
 rw [List.take_zero,nv,pj,Hb (by omega),←mV]
 rw [List.take_zero,nv,pj]at h3
 exact⟨_,_,rfl,h3,h2⟩
theorem d6{β' :Type}{p:Rp α}{q' :Rp β'}{x:α×β}{y:γ}{off' :Nat}{x2:β'}(h:pe q q' off u x.2 y x2)(ho:off' =p.sz+off):pe (co p q) (co p q') off' u x y (x.1,x2):=fun S cs ds ⟨a,b,e,h1,h2⟩ hd=>by
 have hl:=p.len h1
 have h3:=h S b ds h2 hd
 subst e ho
 refine⟨a,_,?_,h1,h3⟩
 have e1:p.sz+off-a.length=off:=by omega
 have e2:p.sz+off+u.sz-a.length=off+u.sz:=by omega
 rw [List.take_append,List.drop_append,vg (by omega),vf (by omega),e1,e2]
 simp
variable{x' :γ}
theorem sv{α' β' :Type}{p:Rp α}{p' :Rp α'}{f:β→α}{f' :β' →α'}{x:β}{x' :β'}{y:γ}{z:α'}(h:pe p p' off u (f x) y z)(e:f' x' =z):pe (lI p f) (lI p' f') off u x y x' :=fun S cs ds h1 h2=>by
 show p'.rc S _ (f' x')
 rw [e]
 exact h S cs ds h1 h2
variable{Q:Exit→Act→World→Prop}{ops:Array Oper}{rest:List Oper}{w' :World}
section
variable{e:Exit}{ty:TypeId}
theorem dP{x:α}{y:β}{v:Operand}(ti:TI E.P U sz bytes agg z)(hsz:q.sz=sz)(hset:pe r r' off q x y x')(hoff:Nat.ble (off+q.sz) r.sz=true)(hp:aL E.N G p (tV (aN b off)))(hv:aL E.N G v (tD q y))(k:RG E ops Q rest (bx r' T b x' ::O) G):RG E ops Q (⟨none,.store U p v,ty,pos,after,none⟩::rest) (bx r T b x::O) G:= .of rfl fun a w S st=>by
 have h1:a.eval p=aN b off:=hp S a st.facts
 obtain⟨ds,h2,h3⟩:=hv S a st.facts
 obtain⟨⟨hno,cur,h5,h6⟩,_⟩:=st.own.1
 have hl:=r.len h6
 have hoff' :=qc hoff
 obtain⟨w',hr,e1,e2,e3,e4,e5,e6⟩:=ke ti hsz h3 h5 (off:=off) (by simp at hl;omega)
 have hrun:(execOp a.eval ⟨none,.store U p v,ty,pos,after,none⟩).run E.P w= .ok .skip w' :=by
  simp [execOp,h1,h2,Instr.storeAt,aN,Instr.sureAddr,hr]
 refine⟨fun c h=>(by cases h),?_⟩
 rw [hrun]
 obtain⟨g1,g2,g3⟩:=nI (O:=O) st.sat (bx r T b x) (bx r' T b x') st.own (fun _=>sU) (fun _=>sU) ⟨e1,e2,e3,e4.1,e4.2⟩ e6 ⟨hno,_,e5,by simpa using hset S _ _ h6 h3⟩ hno
 exact k _ _ S ⟨st.ext.step g1 (fun c hc=>st.own.1.2 c hc),g2,g3,st.facts⟩
theorem St.cvB{x:α}(h: ∀w S cs,ee E.base E.B w S O→r.rc S cs x→r'.rc S cs x')(st:St E (bx r T b x::O) G a w S):St E (bx r' T b x' ::O) G a w S:=
 st.own_map fun⟨⟨⟨h1,c,h2,h3⟩,h4⟩,h5,h6⟩=>⟨⟨⟨h1,c,h2,h _ _ _ h6 h3⟩,h4⟩,h5,h6⟩
theorem uI{x:α}(h: ∀w S cs,ee E.base E.B w S O→r.rc S cs x→r'.rc S cs x')(k:AT E Q e (bx r' T b x' ::O) G):AT E Q e (bx r T b x::O) G:=fun a w S st=>k a w S (st.cvB h)
end

section
variable{b:Frame}{k:List Item}{cs:List Frame}{F:Fence}
theorem pS:step P (lone (b.atR a (.code (.scope c)::k)) cs w)= .next (lone (b.atR a (.code c:: .inScope c::k)) cs w):=
 step_lone_go (by simp [stepG,stepG.exec,Frame.atR])
theorem Eb:step P (lone (b.atR a (.inScope c::k)) cs w)= .next (lone (b.atR a k) cs w):=
 step_lone_go (by simp [stepG,stepG.exec,Frame.atR])
theorem I3(h:c.wpIn F n P (Exit.noGoto Q) a w):(Code.scope c).wpIn F n P Q a w:=by
 intro b k cs hro hb hr
 have h0:(lone (b.atR a (.code (.scope c)::k)) cs w).fenced P F:=fenced_calm hb hr rfl
 obtain⟨e,a₁,w₁,hq,harr⟩:=h b (.inScope c::k) cs hro hb hr
 cases e with
 |normal=>exact⟨.normal,a₁,w₁,hq,.head h0 pS (StepsIn.trans harr (.one (fenced_calm hb hr rfl) Eb))⟩
 |exit id=>
  have hx:exitTo id (.inScope c::k)=exitTo id k:=by simp [exitTo]
  exact⟨.exit id,a₁,w₁,hq,fun k' hk=> .head h0 pS (harr.1 k' (by rw [hx];exact hk)),
   fun hr' hk=>let⟨k₁,h1,h2⟩:=harr.2 hr' (by rw [hx];exact hk);⟨k₁,h1,.head h0 pS h2⟩⟩
 |goto l=>exact hq.elim
 |ret=>exact⟨_,a₁,w₁,hq,.of_steps (.one h0 pS) harr⟩
 |panic ch=>exact⟨_,a₁,w₁,hq,.of_steps (.one h0 pS) harr⟩
 |outgrown=>exact⟨_,a₁,w₁,hq,.of_steps (.one h0 pS) harr⟩
end
section
theorem DV(h:CG E (Exit.noGoto Q) c O G):CG E Q (.scope c) O G:=fun a w S st=>I3 (h a w S st)
theorem DW{l:Nat}(h:AT E Q .normal O G):CG E Q (.label l) O G:=fun a w S st=>wpIn_label (h a w S st)
theorem p9(h:AT E Q .ret O G):AT E (Exit.noGoto Q) .ret O G:=h
end

variable{κ:Type}{m:List (κ×β)}
theorem Gp [Inhabited α]{m i:Nat}(h:i<m):lQ (pH r m) (i*r.sz) r (fun x=>(x[i]?).getD default):=fun S cs x ⟨h1,h2⟩=>by
 have hi:x[i]? =some ((x[i]?).getD default):=by rw [nP (by omega)];rfl
 exact BW h2 hi
variable{d:Nat}{j:Int}
theorem R5 [DecidableEq α] [Inhabited α]{m t e:Nat}(ht:P.underlying t=some (.array m e))(ti:TI P e sz bytes agg z)(hsz:r.sz=sz)(hag:r.agg=agg)(he:pf P e r n):pf P t (pH r m) (n+1):=fun S cs ds x y d w hx hy=>by
 obtain⟨i,zv,hi,hs,_⟩:=ti.get
 have hcell:P.cellsOf e=r.sz:=by unfold Program.cellsOf;rw [hi];simp [hs,hsz]
 have e1:(pH r m).val cs= .agg cs.toArray:=rfl
 have e2:(pH r m).val ds= .agg ds.toArray:=rfl
 rw [e1,e2,show d+(n+1)=(d+n)+1 from rfl,run_equalIn_array w (d+n) cs.toArray ds.toArray ht hi,List.range_eq_range',hcell]
 have key: ∀k j,j+k=m→(Op.eqItems (d+n) e r.sz cs.toArray ds.toArray (List.range' j k)).run P w= .ok (decide (x.drop j=y.drop j)) w:=by
  intro k
  induction k with
  |zero=>
   intro j hj
   rw [vf (by have:=hx.1;omega),vf (by have:=hy.1;omega)]
   rfl
  |succ k ih=>
   intro j hj
   have hjx:j<x.length:=by have:=hx.1;omega
   have hjy:j<y.length:=by have:=hy.1;omega
   have h1:=sx ti hsz hag (Gp (r:=r) (m:=m) (i:=j) (by omega)) hx w
   have h2:=sx ti hsz hag (Gp (r:=r) (m:=m) (i:=j) (by omega)) hy w
   have h3:=he S _ _ _ _ d w (Gp (r:=r) (m:=m) (i:=j) (by omega) S cs x hx) (Gp (r:=r) (m:=m) (i:=j) (by omega) S ds y hy)
   rw [List.range'_succ]
   unfold Op.eqItems
   simp only [r0,h1,h2,h3,sq]
   have ex:x.drop j=(x[j]?).getD default::x.drop (j+1):=by rw [nP hjx];exact ut hjx
   have ey:y.drop j=(y[j]?).getD default::y.drop (j+1):=by rw [nP hjy];exact ut hjy
   rw [ex,ey]
   by_cases hq:(x[j]?).getD default=(y[j]?).getD default
   ·simp only [hq,decide_true,tF,uK,qa]
    rw [ih (j+1) (by omega)]
    congr 1
    simp
   ·simp [hq]
 have:=key m 0 (by omega)
 simpa using this
variable{ys:List α}
section
variable{ty:TypeId}
theorem sO{xs:List Operand}{m sz' bytes' :Nat}{agg' :Bool}{z' :List Value}(ht:E.P.underlying t=some (.array m T))(ti:TI E.P T sz bytes agg z)(hsz:r.sz=sz)(tj:TI E.P t sz' bytes' agg' z')(hz:z'.length=m*r.sz)(hm:m=ys.length)(hx:lB E.N G xs (ys.map (tD r))):cO E O G ⟨dst,.build t (xS 0 xs).toArray,ty,pos,after,g⟩ (tD (pH r m) ys):=
 .of_pure fun a w S _ _ hF=>by
  obtain⟨zv,hzr,hzc⟩:=tj.zero w
  obtain⟨cs,hc,hfill⟩:=Di ys (xs.map a.eval) 0 [] z' (hx.tys hF) (by simp) (by rw [hz,hm])
  subst hsz
  have hparts:((xS 0 xs).toArray.map fun(i,x)=>(i,a.eval x)).toList=Bl 0 (xs.map a.eval):=by simpa using AF a.eval 0 xs
  rw [nv,nv]at hfill
  refine⟨.agg cs.toArray,?_,cs,rfl,hm.symm,hc⟩
  simp only [execOp,Instr.build,r0,hzr,sq,jr ht,ti.sizeOf,hzc,hparts,hfill]
  simp
end

def wx(N:Nat):List Nat→List Oper→Bool
 |_,[]=>true
 |seen,o::rest=>match o.dst with
  |some d=>Nat.blt d N&& !(seen.any (Nat.beq d))&&wx N (d::seen) rest
  |none=>wx N seen rest
theorem A3{N:Nat}(l:List Oper): ∀(seen:List Nat),wx N seen l=true→
  (∀o:Oper,o∈l→ ∀d,o.dst=some d→d<N∧d∉seen)∧ ∀(i j:Nat) (o p:Oper) (d:Nat),l[i]? =some o→l[j]? =some p→o.dst=some d→p.dst=some d→i=j:=by
 induction l with
 |nil=>exact fun _ _=>⟨fun _ h=>(by cases h),fun _ _ _ _ _ h=>(by simp at h)⟩
 |cons o l ih=>
  intro seen h
  unfold wx at h
  cases hd:o.dst with
  |none=>
   rw [hd]at h
   obtain⟨h1,h2⟩:=ih seen h
   refine⟨fun q hq d hqd=>?_,fun i j p q d hi hj hp hq=>?_⟩
   ·rcases kp.1 hq with rfl|hq
    ·rw [hd]at hqd;cases hqd
    ·exact h1 q hq d hqd
   ·cases i with
    |zero=>simp at hi;subst hi;rw [hd]at hp;cases hp
    |succ i=>
     cases j with
     |zero=>simp at hj;subst hj;rw [hd]at hq;cases hq
     |succ j=>rw [h2 i j p q d (by simpa using hi) (by simpa using hj) hp hq]
  |some d0=>
   rw [hd]at h
   simp only [iz,uJ,xX]at h
   obtain⟨⟨g1,g2⟩,g3⟩:=h
   obtain⟨h1,h2⟩:=ih (d0::seen) g3
   have hns:d0∉seen:=fun hm=>by
    have:seen.any (Nat.beq d0)=true:=Ce.2 ⟨d0,hm,Nat.beq_refl d0⟩
    rw [this]at g2;cases g2
   refine⟨fun q hq d hqd=>?_,fun i j p q d hi hj hp hq=>?_⟩
   ·rcases kp.1 hq with rfl|hq
    ·rw [hd]at hqd;cases hqd;exact⟨g1,hns⟩
    ·obtain⟨k1,k2⟩:=h1 q hq d hqd
     exact⟨k1,fun hm=>k2 (oS _ hm)⟩
   ·cases i with
    |zero=>
     cases j with
     |zero=>rfl
     |succ j=>
      simp at hi;subst hi
      rw [hd]at hp;cases hp
      exact absurd (oc ..) (h1 q (qS (by simpa using hj)) d0 hq).2
    |succ i=>
     cases j with
     |zero=>
      simp at hj;subst hj
      rw [hd]at hq;cases hq
      exact absurd (oc ..) (h1 p (qS (by simpa using hi)) d0 hp).2
     |succ j=>rw [h2 i j p q d (by simpa using hi) (by simpa using hj) hp hq]
def HH:List Oper→List Ty→mr→mr
 |o::l,t::ts,G=>match o.dst with
  |some d=>(d,t)::HH l ts G
  |none=>HH l ts G
 |_,_,G=>G
theorem E2(l:List Oper): ∀(ts:List Ty) (k:Nat) (t:Ty),ts.length=l.length→look (HH l ts G) k=some t→
  (∃(j:Nat) (o:Oper),l[j]? =some o∧o.dst=some k∧ts[j]? =some t)∨(look G k=some t∧ ∀o:Oper,o∈l→o.dst≠some k):=by
 induction l with
 |nil=>
  intro ts k t hl h
  have:ts=[]:=uL (by simpa using hl)
  subst this
  exact .inr ⟨h,fun _ h=>(by cases h)⟩
 |cons o l ih=>
  intro ts k t hl h
  cases ts with
  |nil=>simp at hl
  |cons u ts=>
   unfold HH at h
   have hl' :ts.length=l.length:=by simpa using hl
   have lift:((∃(j:Nat) (p:Oper),l[j]? =some p∧p.dst=some k∧ts[j]? =some t)∨(look G k=some t∧ ∀p:Oper,p∈l→p.dst≠some k))→o.dst≠some k→
     (∃(j:Nat) (p:Oper),(o::l)[j]? =some p∧p.dst=some k∧(u::ts)[j]? =some t)∨(look G k=some t∧ ∀p:Oper,p∈o::l→p.dst≠some k):=by
    rintro(⟨j,p,h1,h2,h3⟩|⟨h1,h2⟩) hne
    ·exact .inl ⟨j+1,p,by simpa using h1,h2,by simpa using h3⟩
    ·exact .inr ⟨h1,fun p hp=>(kp.1 hp).elim (fun e=>by subst e;exact hne) (h2 p)⟩
   cases hd:o.dst with
   |none=>
    rw [hd]at h
    exact lift (ih ts k t hl' h) (by rw [hd];exact fun e=>by cases e)
   |some d=>
    rw [hd]at h
    simp only at h
    unfold look at h
    by_cases hb:Nat.beq d k=true
    ·rw [hb]at h
     have:=qd hb
     subst this
     have e:u=t:=by simpa using h
     subst e
     exact .inl ⟨0,o,rfl,hd,rfl⟩
    ·rw [yL]at hb
     rw [hb]at h
     refine lift (ih ts k t hl' h) ?_
     rw [hd]
     intro e
     have:d=k:=od e
     subst this
     simp at hb
abbrev TS:=List Nat×(List OI→Ty)
def TS.at(p:TS)(σ:Nat→OI):Ty:=p.2 (p.1.map σ)
def tc(t:Ty):TS:=([],fun _=>t)
def NI(Ss:List ((Nat→OI)→List OE))(c:Nat)(σ:Nat→OI):List OE:=match Ss[c]? with|some f=>f σ|none=>[]
structure NS where
 slot:Nat
 ty:(Nat→OI)→Ty
 src:Option Nat
def NS.at(n:NS)(σ:Nat→OI):Nd:=⟨n.slot,n.ty σ,n.src⟩
def SA(G:mr)(ts:List TS)(n:NS):Prop:=
 match n.src with
 |some j=> ∀σ,(ts[j]?).map (fun p=>p.at σ)=some (n.ty σ)
 |none=> ∀σ,look G n.slot=some (n.ty σ)
def wb(G:mr)(ts:List TS):List NS→Prop
 |[]=>True
 |n::l=>SA G ts n∧wb G ts l
theorem wb.mem{ts:List TS}: ∀{l:List NS},wb G ts l→ ∀n∈l,SA G ts n
 |_::_,⟨h,_⟩,_,.head _=>h
 |_::_,⟨_,h⟩,_,.tail _ hm=>wb.mem h _ hm
def vX(l:List NS)(σ:Nat→OI):mr:=kG (l.map (·.at σ))
def PL(ts:List TS)(σ:Nat→OI):List Ty:=ts.map fun p=>p.at σ
def Ni(L:List Oper)(es:List Bool)(i:Nat)(p:TS):Bool:=p.1.all fun k=>(es[k]?).getD false&&(Nat.beq k i||nW L L.length i k)
def Tt(L:List Oper)(es:List Bool)(i lo hi:Nat):Bool:=
 Nat.ble lo (gE es es.length)&&(List.range es.length).all fun k=> !((es[k]?).getD false)||((Nat.ble lo (gE es k)||nW L L.length i k)&&(Nat.blt (gE es k) hi||nW L L.length k i))
def DS(E:En)(G:mr)(L:List Oper)(ts:List TS)(Ss:List ((Nat→OI)→List OE))(es0:List Bool):Nat→Nat→List Oper→List Bool→Prop
 |_,_,[],_=>True
 |i,c,o::rest,false::es=>(∃(needs:List NS) (t:TS) (lo hi:Nat),ts[i]? =some t∧wb G ts needs∧(needs.all fun n=>qj L o i (n.at fun _=>wk))=true∧fq i o=true∧Ni L es0 i t=true∧Tt L es0 i lo hi=true∧o.dst.isSome=true∧
   ∀c σ,lo≤c→c≤hi→bN E (NI Ss c σ) L.toArray (vX needs σ) o (t.at σ))∧DS E G L ts Ss es0 (i+1) c rest es
 |i,c,o::rest,true::es=>(∃(needs:List NS) (t:TS),ts[i]? =some t∧wb G ts needs∧(needs.all fun n=>qj L o i (n.at fun _=>wk))=true∧fq i o=true∧Ni L es0 i t=true∧
   ∀σ,pP E L.toArray (NI Ss c σ) (vX needs σ) o (fun x=>NI Ss (c+1) (Hg σ i x)) (fun x=>t.at (Hg σ i x)))∧DS E G L ts Ss es0 (i+1) (c+1) rest es
 |_,_,_::_,[]=>False
variable{L:List Oper}{Ss:List ((Nat→OI)→List OE)}{es:List Bool}{lo:Int}{σ:Nat→OI}
theorem DS.get{ts:List TS}{es0:List Bool}: ∀(r:List Oper) (es:List Bool) (k c:Nat),DS E G L ts Ss es0 k c r es→ ∀(j:Nat) (o:Oper),r[j]? =some o→
    ∃e,es[j]? =some e∧ ∃(needs:List NS) (t:TS),ts[k+j]? =some t∧wb G ts needs∧(needs.all fun n=>qj L o (k+j) (n.at fun _=>wk))=true∧fq (k+j) o=true∧Ni L es0 (k+j) t=true∧
      (match e with
       |false=>o.dst.isSome=true∧ ∃lo hi,Tt L es0 (k+j) lo hi=true∧ ∀c σ,lo≤c→c≤hi→bN E (NI Ss c σ) L.toArray (vX needs σ) o (t.at σ)
       |true=> ∀σ,pP E L.toArray (NI Ss (c+gE es j) σ) (vX needs σ) o (fun x=>NI Ss (c+gE es j+1) (Hg σ (k+j) x)) (fun x=>t.at (Hg σ (k+j) x))):=by
  intro r
  induction r with
  |nil=>intro es k c _ j o h;simp at h
  |cons p r ih=>
    intro es k c h j o ho
    cases es with
    |nil=>exact h.elim
    |cons e es=>
      cases e with
      |false=>
        obtain⟨⟨needs,t,lo,hi,g1,g2,g3,g4,g5,g6,g7,g8⟩,h2⟩:=h
        cases j with
        |zero=>
          simp at ho;subst ho
          exact⟨false,rfl,needs,t,g1,g2,g3,g4,g5,g7,lo,hi,g6,g8⟩
        |succ j=>
          obtain⟨e',g1,g2⟩:=ih es (k+1) _ h2 j o (by simpa using ho)
          refine⟨e',by simpa using g1,?_⟩
          rw [show k+1+j=k+(j+1)from by omega]at g2
          have e1:c+gE (false::es) (j+1)=c+gE es j:=by simp [gE]
          rw [e1];exact g2
      |true=>
        obtain⟨h1,h2⟩:=h
        cases j with
        |zero=>
          simp at ho;subst ho
          exact⟨true,rfl,h1⟩
        |succ j=>
          obtain⟨e',g1,g2⟩:=ih es (k+1) _ h2 j o (by simpa using ho)
          refine⟨e',by simpa using g1,?_⟩
          rw [show k+1+j=k+(j+1)from by omega]at g2
          have e1:c+gE (true::es) (j+1)=c+1+gE es j:=by simp [gE];omega
          rw [e1];exact g2
structure Th(E:En)(G:mr)(l:List Oper)(ts:List TS)(Ss:List ((Nat→OI)→List OE))(es:List Bool)(done:Array Bool)(a:Act)(w:World)(S:SH)(σ:Nat→OI)(c:Nat):Prop where
 ext:gW E.B E.w0 E.S0 w S
 sat:jp w S
 own:ee E.base E.B w S (NI Ss c σ)
 size:a.tmps.size=E.N.n
 defers:a.defers=E.N.ds
 dsz:done.size=l.length
 down: ∀j o,l[j]? =some o→done.getD j false=true→ ∀e∈o.after,Region.binds .any e=true→done.getD e.on false=true
 old: ∀k t,look G k=some t→(∀j o,l[j]? =some o→done.getD j false=true→o.dst≠some k)→t.p S (a.tmps.getD k undef)
 new: ∀j o d p,l[j]? =some o→done.getD j false=true→o.dst=some d→ts[j]? =some p→(p.at σ).p S (a.tmps.getD d undef)
 deps: ∀j p,done.getD j false=true→ts[j]? =some p→ ∀k∈p.1,done.getD k false=true
 chain: ∀k,es[k]? =some true→(done.getD k false=true↔gE es k<c)
variable{done:Array Bool}
section
variable{ts:List TS}
theorem Th.need{c:Nat}(h:Th E G L ts Ss es done a w S σ c){i:Nat}(hi:L[i]? =some o)(hun:done.getD i true=false)(hwait: ∀e∈o.after,Region.binds .any e=true→done.getD e.on false=true){needs:List NS}(h1:wb G ts needs)(h2:(needs.all fun n=>qj L o i (n.at fun _=>wk))=true):di E.N S a (vX needs σ):=by
 have hlt:i<done.size:=by rw [h.dsz];exact(pc.1 hi).1
 have hun' :done.getD i false=false:=by
  simp [hlt]at hun ⊢;exact hun
 refine⟨h.size,h.defers,?_⟩
 have key: ∀n∈needs,(n.ty σ).p S (a.tmps.getD n.slot undef):=by
  intro n hn
  have hs:=m3.1 h2 n hn
  have ho:=h1.mem n hn
  unfold qj NS.at at hs
  unfold SA at ho
  cases hsrc:n.src with
  |some j=>
   rw [hsrc]at hs ho
   simp only [iz]at hs
   obtain⟨hs1,hs2⟩:=hs
   cases hj:L[j]? with
   |none=>rw [hj]at hs1;cases hs1
   |some p=>
    rw [hj]at hs1
    cases hd:p.dst with
    |none=>simp only [hd]at hs1;cases hs1
    |some d=>
     simp only [hd]at hs1
     have hd' :=qd hs1
     subst hd'
     have hdone:done.getD j false=true:=by
      unfold AY at hs2
      obtain⟨e,he0,hb⟩:=Ce.1 hs2
      have he:e∈o.after:=by simpa using he0
      simp only [iz]at hb
      have:=hwait e he hb.2
      rwa [qd hb.1]at this
     have hm:=ho σ
     cases hf:ts[j]? with
     |none=>rw [hf]at hm;simp at hm
     |some f=>
      rw [hf]at hm
      have e:f.at σ=n.ty σ:=by simpa using hm
      rw [←e]
      exact h.new j p n.slot f hj hdone hd hf
  |none=>
   rw [hsrc]at hs ho
   refine h.old _ _ (ho σ) fun j p hj hdone hd=>?_
   have:=m3.1 hs p (qS hj)
   simp only [hd,Nat.beq_refl,tF,we]at this
   unfold AY at this
   obtain⟨e,he0,hb⟩:=Ce.1 this
   have he:e∈p.after:=by simpa using he0
   simp only [iz]at hb
   have h3:=h.down j p hj hdone e he hb.2
   rw [qd hb.1]at h3
   rw [h3]at hun'
   cases hun'
 clear h1 h2
 intro k t hk
 unfold vX at hk
 induction needs with
 |nil=>simp [kG,look]at hk
 |cons n needs ih=>
  simp only [xC]at hk
  unfold kG look at hk
  by_cases hb:Nat.beq n.slot k=true
  ·have hb' :Nat.beq (n.at σ).slot k=true:=hb
   rw [hb']at hk
   have:=qd hb
   subst this
   have h9:some (n.at σ).ty=some t:=by simpa using hk
   have e:n.ty σ=t:=od h9
   rw [←e]
   exact key n (oc ..)
  ·rw [yL]at hb
   have hb' :Nat.beq (n.at σ).slot k=false:=hb
   rw [hb']at hk
   exact ih (fun m hm=>key m (oS _ hm)) hk
theorem Th.step{σ' :Nat→OI}{c c' :Nat}(h:Th E G L ts Ss es done a w S σ c){i:Nat}{p0:TS}{C:Nat→Prop}(hi:L[i]? =some o)(hdN: ∀d,o.dst=some d→d<E.N.n)(hs2: ∀d,o.dst=some d→ ∀j p,L[j]? =some p→done.getD j false=true→p.dst=some d→i=j)(hwait: ∀e∈o.after,Region.binds .any e=true→done.getD e.on false=true)(ht:ts[i]? =some p0)(hun:done.getD i true=false)(hdep: ∀k∈p0.1,k=i∨done.getD k false=true)(hext:gW C w S w' S')(hC: ∀b,C b→E.base≤b∨E.B b)(hsat:jp w' S')(hown:ee E.base E.B w' S' (NI Ss c' σ'))(hσ: ∀k,k≠i→σ' k=σ k)(hv:(p0.at σ').p S' v)(hch: ∀k,es[k]? =some true→((done.setIfInBounds i true).getD k false=true↔gE es k<c')):
  Th E G L ts Ss es (done.setIfInBounds i true) (a.put o.dst v) w' S' σ' c' :=by
 have hlt:i<done.size:=by rw [h.dsz];exact(pc.1 hi).1
 have hset: ∀j,(done.setIfInBounds i true).getD j false=true→j=i∨done.getD j false=true:=fun j hj=>by
  by_cases hij:i=j
  ·exact .inl hij.symm
  ·rw [uN false hij]at hj;exact .inr hj
 have hseti:(done.setIfInBounds i true).getD i false=true:=by simp [hlt]
 have hun' :done.getD i false=false:=by simp [hlt]at hun ⊢;exact hun
 have hput: ∀k,(∀d,o.dst=some d→d≠k)→(a.put o.dst v).tmps.getD k undef=a.tmps.getD k undef:=fun k hk=>by
  cases hd:o.dst with
  |none=>rfl
  |some d=>
   have hda:d<a.tmps.size:=by rw [h.size];exact hdN d hd
   rw [rq hda,bI (hk d hd)]
 refine⟨h.ext.step hext hC,hsat,hown,?_,?_,by simp [h.dsz],fun j p hj hdone e he hb=>?_,fun k u hk hno=>?_,fun j p d' u hj hdone hd' hu=>?_,fun j u hj hu k hk=>?_,hch⟩
 ·cases o.dst with
  |none=>exact h.size
  |some d=>simp [Act.put,h.size]
 ·cases o.dst with
  |none=>exact h.defers
  |some d=>exact h.defers
 ·rcases hset j hdone with rfl|hj'
  ·rw [hi]at hj
   have:o=p:=by simpa using hj
   subst this
   exact vc (hwait e he hb)
  ·exact vc (h.down j p hj hj' e he hb)
 ·rw [hput k fun d hd e=>hno i o hi hseti (by rw [hd,e])]
  exact u.mono hext.keep (h.old k u hk fun j p hj hdone=>hno j p hj (vc hdone))
 ·by_cases hij:j=i
  ·subst hij
   rw [hi]at hj
   have:o=p:=by simpa using hj
   subst this
   have hda:d' <a.tmps.size:=by rw [h.size];exact hdN d' hd'
   rw [hd',rq hda,bQ rfl]
   rw [ht]at hu
   have:p0=u:=by simpa using hu
   subst this
   exact hv
  ·have hj' :=(hset j hdone).resolve_left hij
   rw [hput d' fun d hd e=>by subst e;exact hij (hs2 d hd j p hj hj' hd').symm]
   have e1:u.at σ' =u.at σ:=congrArg u.2 (G9 fun k hk=>hσ k fun e=>by
     subst e
     rw [h.deps j u hj' hu k hk]at hun';cases hun')
   rw [e1]
   exact Ty.mono _ hext.keep (h.new j p d' u hj hj' hd' hu)
 ·rcases hset j hj with rfl|hj'
  ·rw [ht]at hu
   have:p0=u:=by simpa using hu
   subst this
   rcases hdep k hk with rfl|h'
   ·exact hseti
   ·exact vc h'
  ·exact vc (h.deps j u hj' hu k hk)
end
theorem Hf{l t:List Oper}{ts:List TS}(hsl:wx E.N.n [] l=true)(hlen:ts.length=l.length)(hesl:es.length=l.length)(hd:DS E G (l++t) ts Ss es 0 0 l es)(hch:J6 (l++t) es=true)(ht:xF (l++t) l.length t.length=true)(hQ: ∀a w S σ,St E (NI Ss (gE es es.length) σ) (HH l (PL ts σ) G) a w S→wpListIn (fw E.r) 0 E.P (l++t).toArray Q t a w):
  ∀(fuel:Nat) (done:Array Bool) (a:Act) (w:World) (S:SH) (σ:Nat→OI) (c:Nat),mf done=fuel→(∀j,l.length≤j→done.getD j false=false)→c≤gE es es.length→Th E G (l++t) ts Ss es done a w S σ c→wpAnyIn (fw E.r) 0 E.P .any (l++t).toArray Q fuel done a w:=by
 have hL1: ∀i o,i<l.length→(l++t)[i]? =some o→l[i]? =some o:=fun i o hi h=>by rwa [vh hi]at h
 have hL2: ∀i o,l[i]? =some o→(l++t)[i]? =some o:=fun i o h=>by rw [vh (pc.1 h).1];exact h
 have htail: ∀m o,l.length≤m→(l++t)[m]? =some o→vM (l++t) m=true∧fq m o=true:=fun m o hm ho=>by
  have hml:m<(l++t).length:=(pc.1 ho).1
  rw [mt]at hml
  unfold xF at ht
  have:=m3.1 ht (m-l.length) (by simp;omega)
  rw [show l.length+(m-l.length)=m from by omega,ho]at this
  simp only [iz]at this
  exact⟨this.1,this.2.1⟩
 have hget:=fun i o (hi:l[i]? =some o)=>DS.get l es 0 0 hd i o hi
 have hedge: ∀i o,(l++t)[i]? =some o→fq i o=true:=fun i o hi=>by
  rcases m2 i l.length with h|h
  ·obtain⟨_,_,_,_,_,_,_,h,_⟩:=hget i o (hL1 i o h hi)
   simpa using h
  ·exact(htail i o h hi).2
 obtain⟨hs1,hs2⟩:=A3 l [] hsl
 have fin: ∀fuel done a w S σ c,mf done=fuel→(∀j,l.length≤j→done.getD j false=false)→c≤gE es es.length→Th E G (l++t) ts Ss es done a w S σ c→(∀i,i<l.length→done.getD i false=true)→wpAnyIn (fw E.r) 0 E.P .any (l++t).toArray Q fuel done a w:=by
  intro fuel done a w S σ c hu hfree hcle h hall
  have hcc:c=gE es es.length:=by
   rcases m2 c (gE es es.length)with hlt|hge
   ·obtain⟨i,h1,h2,h3⟩:=vN hlt
    have:=(h.chain i h2).1 (hall i (by omega))
    omega
   ·omega
  subst hcc
  refine ya (n:=l.length) (fun m o hm ho=>(htail m o hm ho).1) hedge t l.length done fuel a w (gB _) (by simp) h.dsz (fun j hj=>⟨fun hjd=>?_,fun hlt=>hall j hlt⟩) hu
   (hQ a w S σ ⟨h.ext,h.sat,h.own,h.size,h.defers,fun j u hj=>?_⟩)
  ·rcases m2 j l.length with h' |h'
   ·exact h'
   ·rw [hfree j h']at hjd;cases hjd
  ·rcases E2 l (PL ts σ) j u (by unfold PL;rw [Ex];exact hlen) hj with⟨i,o,h1,h2,h3⟩|⟨h1,h2⟩
   ·unfold PL at h3
    rw [Ez]at h3
    cases hf:ts[i]? with
    |none=>rw [hf]at h3;simp at h3
    |some f=>
     rw [hf]at h3
     have e:f.at σ=u:=by simpa using h3
     rw [←e]
     exact h.new i o j f (hL2 i o h1) (hall i (pc.1 h1).1) h2 hf
   ·refine h.old j u h1 fun i o ho hdn=>?_
    rcases m2 i l.length with h' |h'
    ·exact h2 o (qS (hL1 i o h' ho))
    ·rw [hfree i h']at hdn;cases hdn
 have lower: ∀done a w S σ c i,(∀j,l.length≤j→done.getD j false=false)→Th E G (l++t) ts Ss es done a w S σ c→i∈Region.ready .any (l++t).toArray done→l.length≤i→ ∀j,j<l.length→done.getD j false=true:=by
  intro done a w S σ c i hfree h hi hge j hj
  obtain⟨hun,p,hp,hwait⟩:=sV.1 hi
  have hp' :(l++t)[i]? =some p:=by simpa using hp
  have hcov:=(htail i p hge hp').1
  unfold vM at hcov
  have hre:=m3.1 hcov j (by simp;omega)
  exact gH h.down _ i j (fun q hq e he hb=>by
   have:q=p:=by rw [hp']at hq;simpa using hq.symm
   subst this
   exact hwait e he hb) hre
 have hchain: ∀i j,j<i→es[i]? =some true→es[j]? =some true→nW (l++t) (l++t).length i j=true:=fun i j hij h1 h2=>by
  unfold J6 at hch
  have hil:i<es.length:=(pc.1 h1).1
  have:=m3.1 (m3.1 hch i (by simpa using hil)) j (by simpa using hij)
  rw [h1,h2]at this
  simpa using this
 intro fuel
 induction fuel with
 |zero=>
  intro done a w S σ c hu hfree hcle h
  exact fin 0 done a w S σ c hu hfree hcle h fun i hi=>tN hu (by rw [h.dsz,mt];omega)
 |succ fuel ih=>
  intro done a w S σ c hu hfree hcle h
  by_cases hall: ∀i,i<l.length→done.getD i false=true
  ·exact fin _ done a w S σ c hu hfree hcle h hall
  have hready0: ∀m i,i<m→i<l.length→Region.ready .any (l++t).toArray done=[]→done.getD i false=true:=by
   intro m
   induction m with
   |zero=>intro i h;omega
   |succ m ihm=>
    intro i him hil hr
    have his:i<done.size:=by rw [h.dsz,mt];omega
    by_cases hdn:done.getD i true=true
    ·rw [←o3 his];exact hdn
    ·exfalso
     obtain⟨o,ho⟩: ∃o,(l++t)[i]? =some o:=⟨l[i],hL2 i _ (nP hil)⟩
     have hmem:i∈Region.ready .any (l++t).toArray done:=by
      rw [sV]
      refine⟨by simpa using hdn,o,by simpa using ho,fun e he hb=>?_⟩
      have:=hedge i o ho
      unfold fq at this
      have:=m3.1 this e (by simpa using he)
      simp only [hb,tF,we,uJ]at this
      exact ihm e.on (by omega) (by omega) hr
     rw [hr]at hmem;cases hmem
  refine⟨fun hr=>absurd (fun i hi=>hready0 (i+1) i (by omega) hi hr) hall,fun i hi=>?_⟩
  have hil:i<l.length:=by
   rcases m2 i l.length with h' |h'
   ·exact h'
   ·exact absurd (lower done a w S σ c i hfree h hi h') hall
  obtain⟨hun,o,ho,hwait⟩:=sV.1 hi
  have ho' :(l++t)[i]? =some o:=by simpa using ho
  have hol:=hL1 i o hil ho'
  obtain⟨e,he,needs,u,h1,h2,h3,_,h4,h5⟩:=hget i o hol
  rw [pj]at h1 h3 h4
  have hF:=h.need ho' hun hwait h2 h3
  have his:i<done.size:=by rw [h.dsz,mt];omega
  have hun' :done.getD i false=false:=by rw [←o3 his];exact hun
  have hu' :mf (done.setIfInBounds i true)=fuel:=by have:=qW hun;omega
  have huq: ∀d,o.dst=some d→ ∀j p,(l++t)[j]? =some p→done.getD j false=true→p.dst=some d→i=j:=fun d hdd j p hj hjd hpd=>by
   rcases m2 j l.length with h' |h'
   ·exact hs2 i j o p d hol (hL1 j p h' hj) hdd hpd
   ·rw [hfree j h']at hjd;cases hjd
  have hfree' : ∀j,l.length≤j→(done.setIfInBounds i true).getD j false=false:=fun j hj=>by
   rw [uN false (by omega)];exact hfree j hj
  have hbl:E.base≤w.heap.size:=h.ext.size
  have hwaits: ∀q,(l++t)[i]? =some q→ ∀e∈q.after,Region.binds .any e=true→done.getD e.on false=true:=fun q hq e he hb=>by
   have:q=o:=by rw [ho']at hq;simpa using hq.symm
   subst this
   exact hwait e he hb
  have hdpp: ∀k∈u.1,k=i∨done.getD k false=true:=fun k hk=>by
   have:=m3.1 h4 k hk
   simp only [iz,z7]at this
   rcases this.2 with hb|hb
   ·exact .inl (qd hb)
   ·exact .inr (gH h.down _ i k hwaits hb)
  have hdNN: ∀d,o.dst=some d→d<E.N.n:=fun d hd=>(hs1 o (qS hol) d hd).1
  unfold wpOpIn
  rw [ho]
  show if _ then _ else _
  cases e with
  |false=>
   simp only at h5
   obtain⟨hdS,lo,hi',hwin,h5⟩:=h5
   rw [pj]at hwin
   obtain⟨d,hdd⟩:=Option.isSome_iff_exists.1 hdS
   have hdN:=(hs1 o (qS hol) d hdd).1
   unfold Tt at hwin
   rw [iz]at hwin
   obtain⟨hw1,hw2⟩:=hwin
   have hw1' :=qc hw1
   have hwk: ∀k,es[k]? =some true→(Nat.ble lo (gE es k)=true∨nW (l++t) (l++t).length i k=true)∧(Nat.blt (gE es k) hi' =true∨nW (l++t) (l++t).length k i=true):=fun k hk=>by
    have hkl:k<es.length:=(pc.1 hk).1
    have:=m3.1 hw2 k (by simpa using hkl)
    rw [hk]at this
    simpa using this
   have hlo:lo≤c:=by
    rcases m2 c lo with hlt|hge
    ·exfalso
     obtain⟨k,hk1,hk2,hk3⟩:=vN (es:=es) (c:=c) (k:=es.length) (by omega)
     rcases(hwk k hk2).1 with hb|hb
     ·have:=qc hb;omega
     ·have:=(h.chain k hk2).1 (gH h.down _ i k hwaits hb)
      omega
    ·exact hge
   have hhi:c≤hi' :=by
    rcases m2 hi' c with hlt|hge
    ·exfalso
     obtain⟨k,hk1,hk2,hk3⟩:=vN (es:=es) (c:=hi') (k:=es.length) (by omega)
     rcases(hwk k hk2).2 with hb|hb
     ·simp only [uJ]at hb;omega
     ·have hkd:done.getD k false=true:=(h.chain k hk2).2 (by omega)
      have:=gH h.down _ k i (fun q hq e he hb=>h.down k q hq hkd e he hb) hb
      rw [this]at hun';cases hun'
    ·exact hge
   have h6:=h5 c σ hlo hhi a w S h.sat h.own hF
   have hch' : ∀k,es[k]? =some true→((done.setIfInBounds i true).getD k false=true↔gE es k<c):=fun k hk=>by
    have hne:i≠k:=fun e=>by subst e;rw [he]at hk;cases hk
    rw [uN false hne];exact h.chain k hk
   by_cases hw:Region.wanted o (yielded (l++t).toArray a.tmps)=true
   ·rw [bQ hw]at h6 ⊢
    refine lR (fun a' w' ⟨v,S',ha,hx,hs,hv⟩=>?_) h6
    subst ha
    exact ih _ _ _ S' _ c hu' hfree' hcle (h.step ho' hdNN huq hwait h1 hun hdpp hx (fun _ hb=>hb.elim) hs (h.own.ext0 hx) (fun _ _=>rfl) hv hch')
   ·rw [bI hw]at h6 ⊢
    exact⟨fun _ _=>trivial,ih _ _ _ S _ c hu' hfree' hcle (h.step ho' hdNN huq hwait h1 hun hdpp (hY qP _ _) (fun _ hb=>hb.elim) h.sat h.own (fun _ _=>rfl) h6 hch')⟩
  |true=>
   simp only [pj]at h5
   -- it is the next one of the chain
   have hca:gE es i=c:=by
    have hn: ¬gE es i<c:=fun hlt=>by rw [(h.chain i he).2 hlt]at hun';cases hun'
    rcases m2 c (gE es i)with hlt|hge
    ·exfalso
     obtain⟨k,hk1,hk2,hk3⟩:=vN hlt
     have hkd:done.getD k false=true:=gH h.down _ i k hwaits (hchain i k hk1 he hk2)
     have:=(h.chain k hk2).1 hkd
     omega
    ·omega
   subst hca
   have h6:=h5 σ a w S h.sat h.own hF hbl
   have hch' : ∀k,es[k]? =some true→((done.setIfInBounds i true).getD k false=true↔gE es k<gE es i+1):=fun k hk=>by
    by_cases hik:i=k
    ·subst hik
     constructor
     ·intro _;omega
     ·intro _;simp [his]
    ·rw [uN false hik,h.chain k hk]
     constructor
     ·intro h;omega
     ·intro hlt
      rcases m2 i k with hlk|hlk
      ·have:=Dz hlk he;omega
      ·exact Dz (by omega) hk
   have hcle' :gE es i+1≤gE es es.length:=Dz (by omega) he
   by_cases hw:Region.wanted o (yielded (l++t).toArray a.tmps)=true
   ·rw [bQ hw]at h6 ⊢
    refine lR (fun a' w' ⟨v,S',x,ha,hx,hs,hown,hv⟩=>?_) h6
    subst ha
    exact ih _ _ _ S' _ _ hu' hfree' hcle' (h.step ho' hdNN huq hwait h1 hun hdpp hx (fun b ⟨f,hf,hb⟩=>(ee.mem h.own f hf).2 b hb) hs hown (fun k hk=>Cq σ x hk) hv hch')
   ·rw [bI hw]at h6 ⊢
    obtain⟨x,hown,hv⟩:=h6
    exact⟨fun _ _=>trivial,ih _ _ _ S _ _ hu' hfree' hcle' (h.step ho' hdNN huq hwait h1 hun hdpp (hY qP _ _) (fun _ hb=>hb.elim) h.sat hown (fun k hk=>Cq σ x hk) hv hch')⟩
theorem rZ{id:Nat}(m:Nat)(ts:List TS)(es:List Bool)(Ss:List ((Nat→OI)→List OE))(hO:Ss[0]? =some fun _=>O)(hm:E.P.follows .mixedOrders=true)(hsl:wx E.N.n [] (L.take m)=true)(hlen:ts.length=(L.take m).length)(hesl:es.length=(L.take m).length)(hch:J6 L es=true)(ht:xF L (L.take m).length (L.drop m).length=true)(hd:DS E G L ts Ss es 0 0 (L.take m) es)(k: ∀σ:Nat→OI,RG E L.toArray Q (L.drop m) (NI Ss (gE es es.length) σ) (HH (L.take m) (PL ts σ) G)):CG E Q (.region id L.toArray true) O G:=fun a w S st=>by
 have hL:L=L.take m++L.drop m:=(sS m L).symm
 generalize L.take m=l at hL hsl hlen hesl ht hd k
 generalize L.drop m=t at hL ht k
 subst hL
 refine wpIn_region_any hm ?_
 obtain⟨he,hs⟩:=xa (w:=w) st.sat
 have hO0:NI Ss 0 (fun _=>wk)=O:=by unfold NI;rw [hO]
 refine Hf hsl hlen hesl hd hch ht (fun a w S σ st=>k σ a w S st) _ _ _ _ S (fun _=>wk) 0 ?_ (fun j _=>?_) (jz _)
  ⟨st.ext.step0 he,hs,by rw [hO0];exact st.own.ext0 he,st.facts.size,st.facts.defers,by simp,fun j o hj hdone=>?_,fun k t hk _=>st.facts.at_ k t hk,fun j o d t hj hdone=>?_,fun j p hdone=>?_,fun k _=>⟨fun hdone=>?_,fun h=>(by omega)⟩⟩
 ·unfold mf;rw [Kp,Km];simp
 ·simp [xY];split<;>rfl
 ·simp [xY]at hdone
  split at hdone<;>simp at hdone
 ·simp [xY]at hdone
  split at hdone<;>simp at hdone
 ·simp [xY]at hdone
  split at hdone<;>simp at hdone
 ·simp [xY]at hdone
  split at hdone<;>simp at hdone
theorem tG{p:Nat→(Nat→OI)→Prop}{lo:Nat}(h: ∀σ,p lo σ): ∀c σ,lo≤c→c≤lo→p c σ:=fun c σ h1 h2=>by
 have:c=lo:=by omega
 subst this;exact h σ
theorem D5{p:Nat→(Nat→OI)→Prop}{lo hi:Nat}(h: ∀σ,p lo σ)(k: ∀c σ,lo+1≤c→c≤hi→p c σ): ∀c σ,lo≤c→c≤hi→p c σ:=fun c σ h1 h2=>by
 by_cases e:c=lo
 ·subst e;exact h σ
 ·exact k c σ (by omega) h2
variable{post:OI→List OE}
theorem zF{op:Op}{ty:TypeId}(hnd: ∀c,op≠ .defer c)(h: ∀a w S,jp w S→ee E.base E.B w S O→di E.N S a G→E.base≤w.heap.size→ ∃w' S' x,(execOp a.eval ⟨none,op,ty,pos,after,g⟩).run E.P w= .ok .skip w' ∧gW (IW O) w S w' S' ∧jp w' S' ∧ee E.base E.B w' S' (post x)):
  EffOK E O G ⟨none,op,ty,pos,after,g⟩ post (fun _=>BH):=fun a w S hs ho hf hb=>by
 obtain⟨w',S',x,h1,h2,h3,h4⟩:=h a w S hs ho hf hb
 refine⟨hnd,?_⟩
 rw [h1]
 exact⟨undef,S',x,rfl,h2,h3,h4,trivial⟩

abbrev HL:=List (Nat×Value)
def zu:HL→Nat→Option Value
 |[],_=>none
 |p::hs,o=>bif Nat.beq p.1 o then some p.2 else zu hs o
theorem sQ: ∀{hs:HL} {o:Nat} {v:Value},zu hs o=some v→(o,v)∈hs
 |[],_,_,h=>by cases h
 |p::hs,o,v,h=>by
  unfold zu at h
  by_cases hb:Nat.beq p.1 o=true
  ·rw [hb]at h
   have e1:=qd hb
   have e2:p.2=v:=od h
   subst e1 e2
   exact oc ..
  ·rw [yL]at hb
   rw [hb]at h
   exact oS _ (sQ h)
def rH{α:Type}(r:Rp α)(hs:HL):Rp α where
 sz:=r.sz
 agg:=r.agg
 rc:=fun S cs x=>r.rc S cs x∧ ∀p∈hs,cs[p.1]? =some p.2
 mono:=fun h k=>⟨r.mono h k.1,k.2⟩
 len:=fun k=>r.len k.1
 one:=fun k=>r.one k.1
 sc:=r.sc
theorem iw{hs:HL}{get:α→β}(h:lQ r off q get):lQ (rH r hs) off q get:=fun S cs x k=>h S cs x k.1
theorem Nl(h:cs[off]? =some v):(cs.drop off).take 1=[v]:=by
 have hlt:=(pc.1 h).1
 rw [ut hlt,(pc.1 h).2]
 rfl
theorem X6{hs:HL}(h:zu hs off=some v):lQ (rH r hs) off rV (fun _=>v):=fun S cs x k=>by
 have h1:=k.2 _ (sQ h)
 exact⟨Nl h1,r.one k.1 v (qS h1)⟩
def HZ(z:List Value):HL→Prop
 |[]=>True
 |p::hs=>z[p.1]? =some p.2∧HZ z hs
theorem HZ.all: ∀{hs:HL},HZ z hs→ ∀p∈hs,z[p.1]? =some p.2
 |_::_,⟨h,_⟩,_,.head _=>h
 |_::_,⟨_,h⟩,_,.tail _ hm=>HZ.all h _ hm
theorem zH{x:α}{hs:HL}(h: ∀S,r.rc S z x)(k:HZ z hs): ∀S,(rH r hs).rc S z x:=fun S=>⟨h S,k.all⟩
def TT(hs:HL)(off sz:Nat):Bool:=hs.all fun p=>Nat.blt p.1 off||Nat.ble (off+sz) p.1
def UO(hs:HL)(off sz:Nat)(v:Option Value):HL→Prop
 |[]=>True
 |p::l=>((v=some p.2∧p.1=off∧sz=1)∨(zu hs p.1=some p.2∧(Nat.blt p.1 off||Nat.ble (off+sz) p.1)=true))∧UO hs off sz v l
theorem UO.all{hs:HL}{v:Option Value}: ∀{l:HL},UO hs off sz v l→ ∀p∈l,(v=some p.2∧p.1=off∧sz=1)∨(zu hs p.1=some p.2∧(Nat.blt p.1 off||Nat.ble (off+sz) p.1)=true)
 |_::_,⟨h,_⟩,_,.head _=>h
 |_::_,⟨_,h⟩,_,.tail _ hm=>UO.all h _ hm
theorem um{ds:List Value}{k:Nat}(hl:ds.length=sz)(hoff:off+sz≤cs.length)(h:(Nat.blt k off||Nat.ble (off+sz) k)=true):(cs.take off++ds++cs.drop (off+sz))[k]? =cs[k]? :=by
 simp only [z7,uJ,Nat.ble_eq]at h
 have ht:(cs.take off).length=off:=by simp;omega
 rcases h with h|h
 ·rw [vh (by simp;omega),vh (by omega),Ac h]
 ·rw [uu (by simp;omega),wh]
  congr 1
  simp only [mt,ht,hl];omega
theorem Ph{ds:List Value}(hd:ds=[v])(hoff:off+1≤cs.length):(cs.take off++ds++cs.drop (off+1))[off]? =some v:=by
 subst hd
 have ht:(cs.take off).length=off:=by simp;omega
 rw [vh (by simp;omega),uu (by omega),ht,wo]
 rfl
theorem wy{hs hs' :HL}{x:α}{y:β}(h:gP r off q set)(hk:UO hs off q.sz none hs')(hoff:Nat.ble (off+q.sz) r.sz=true):pe (rH r hs) (rH r hs') off q x y (set x y):=fun S cs ds h1 h2=>by
 refine⟨h S cs x ds y h1.1 h2,fun p hp=>?_⟩
 rcases hk.all p hp with⟨e,_⟩|⟨g1,g2⟩
 ·cases e
 ·have hl:=r.len h1.1
  rw [um (q.len h2) (by have:=qc hoff;omega) g2]
  exact h1.2 _ (sQ g1)
theorem Vq{hs:HL}(h:gP r off q set)(hk:TT hs off q.sz=true)(hoff:Nat.ble (off+q.sz) r.sz=true):gP (rH r hs) off q set:=fun S cs x ds y h1 h2=>by
 refine⟨h S cs x ds y h1.1 h2,fun p hp=>?_⟩
 have hl:=r.len h1.1
 rw [um (q.len h2) (by have:=qc hoff;omega) (m3.1 hk p hp)]
 exact h1.2 _ hp
section
variable{e:Exit}
section
variable{ty:TypeId}
theorem pz{op:Op}{t:OI→Ty}(h:EffOK E O G ⟨none,op,ty,pos,after,none⟩ post t)(k: ∀x,RG E ops Q rest (post x) G):RG E ops Q (⟨none,op,ty,pos,after,none⟩::rest) O G:= .of rfl fun a w S st=>
 nJ (fun a' w' ⟨v,S',x,ha,hx,hs,ho,hv⟩=>by
  subst ha
  exact k x _ _ S' ⟨st.ext.step hx fun b ⟨f,hf,hb⟩=>(ee.mem st.own f hf).2 b hb,hs,ho,st.facts.mono hx.keep⟩) (h a w S st.sat st.own st.facts st.base_le)
theorem jv{x:α}{y:β}{v:Operand}(ti:TI E.P U sz bytes agg z)(hsz:q.sz=sz)(hset:pe r r' off q x y x')(hoff:Nat.ble (off+q.sz) r.sz=true)(hp:aL E.N G p (tV (aN b off)))(hv:aL E.N G v (tD q y)):EffOK E (bx r T b x::O) G ⟨none,.store U p v,ty,pos,after,g⟩ (fun _=>bx r' T b x' ::O) (fun _=>BH):=zF (fun _ h=>(by cases h)) fun a w S hs ho hf hb=>by
 have h1:a.eval p=aN b off:=hp S a hf
 obtain⟨ds,h2,h3⟩:=hv S a hf
 obtain⟨⟨hno,cur,h5,h6⟩,_⟩:=ho.1
 have hl:=r.len h6
 have hoff' :=qc hoff
 obtain⟨w',hr,e1,e2,e3,e4,e5,e6⟩:=ke ti hsz h3 h5 (off:=off) (by simp at hl;omega)
 have hrun:(execOp a.eval ⟨none,.store U p v,ty,pos,after,g⟩).run E.P w= .ok .skip w' :=by
  simp [execOp,h1,h2,Instr.storeAt,aN,Instr.sureAddr,hr]
 obtain⟨g1,g2,g3⟩:=nI (O:=O) hs (bx r T b x) (bx r' T b x') ho (fun _=>sU) (fun _=>sU) ⟨e1,e2,e3,e4.1,e4.2⟩ e6 ⟨hno,_,e5,by simpa using hset S _ _ h6 h3⟩ hno
 exact⟨w',S,wk,hrun,g1.more fun k hk=>⟨_,oc ..,hk⟩,g2,g3⟩
theorem Dr{hs hs' :HL}{x:α}{y:β}{u:Value}{v:Operand}(ti:TI E.P U 1 bytes false z)(hsz:q.sz=1)(hag:q.agg=false)(hset:gP r off q set)(hoff:Nat.ble (off+1) r.sz=true)(hk:UO hs off 1 (some u) hs')(hp:aL E.N G p (tV (aN b off)))(hv:aL E.N G v (tD q y))(hu:aL E.N G v (tV u)):EffOK E (bx (rH r hs) T b x::O) G ⟨none,.store U p v,ty,pos,after,g⟩ (fun _=>bx (rH r hs') T b (set x y)::O) (fun _=>BH):=zF (fun _ h=>(by cases h)) fun a w S hsat ho hf hb=>by
 have h1:a.eval p=aN b off:=hp S a hf
 obtain⟨ds,h2,h3⟩:=hv S a hf
 have hu' :a.eval v=u:=hu S a hf
 obtain⟨⟨hno,cur,h5,h6⟩,_⟩:=ho.1
 have hl:=r.len h6.1
 have hoff' :=qc hoff
 have hdl:=q.len h3
 have hds:ds=[u]:=by
  obtain⟨d,hd⟩:=List.length_eq_one_iff.1 (by rw [hdl,hsz]:ds.length=1)
  subst hd
  have e1:q.val [d]=d:=by simp [Rp.val,hag]
  rw [h2,e1]at hu'
  rw [hu']
 obtain⟨w',hr,e1,e2,e3,e4,e5,e6⟩:=ke ti hsz h3 h5 (off:=off) (by simp at hl;omega)
 have hrun:(execOp a.eval ⟨none,.store U p v,ty,pos,after,g⟩).run E.P w= .ok .skip w' :=by
  simp [execOp,h1,h2,Instr.storeAt,aN,Instr.sureAddr,hr]
 rw [hsz]at e5
 have hnew:(rH r hs').rc S (cur.toList.take off++ds++cur.toList.drop (off+1)) (set x y):=by
  have h7:=hset S _ _ _ _ h6.1 h3
  rw [hsz]at h7
  refine⟨h7,fun p hp=>?_⟩
  rcases hk.all p hp with⟨f1,f2,_⟩|⟨f1,f2⟩
  ·rw [f2]
   exact Ph (by rw [hds,od f1]) (by omega)
  ·rw [um (by rw [hdl,hsz]) (by omega) f2]
   exact h6.2 _ (sQ f1)
 obtain⟨g1,g2,g3⟩:=nI (O:=O) hsat (bx (rH r hs) T b x) (bx (rH r hs') T b (set x y)) ho (fun _=>sU) (fun _=>sU) ⟨e1,e2,e3,e4.1,e4.2⟩ e6 ⟨hno,_,e5,by simpa using hnew⟩ hno
 exact⟨w',S,wk,hrun,g1.more fun k hk=>⟨_,oc ..,hk⟩,g2,g3⟩
end
section
variable{ty:TypeId}
theorem oG{hs:HL}{x:α}{u:Value}(ti:TI E.P U 1 bytes false z)(hk:zu hs off=some u)(hm:bx (rH r hs) T b x∈O)(hp:aL E.N G p (tV (aN b off))):
  cO E O G ⟨dst,.load U p,ty,pos,after,g⟩ (tV u):=(bl (q:=rV) ti rfl rfl (X6 hk) hm hp).imp fun _ _ h=>(yX.1 h).1
theorem C0{q:Rp α}{r:Rp β}{hs:HL}{x:β}{l:Option Nat}(ti:TI E.P U 1 bytes false z)(hk:zu hs off=some (aD l cap xs.length))(hm:bx (rH r hs) T b x∈O)(hm2:jx q V l cap xs∈O)(hp:aL E.N G p (tV (aN b off))):
  cO E O G ⟨dst,.load U p,ty,pos,after,g⟩ (tO q l cap xs):=fun a w S hs' ho hf=>
 nJ (fun _ _ ⟨v,S',h1,h2,h3,h4⟩=>⟨v,S',h1,h2,h3,h4,by
  have h5:v=aD l cap xs.length:=h4
  rw [h5]
  exact oh (((ho.ext0 h2).mem _ hm2).1)⟩) (oG (g:=g) (ty:=ty) (pos:=pos) (after:=after) (dst:=dst) ti hk hm hp a w S hs' ho hf)
theorem Qo{t:Ty}(h1: ∀S v,t.p S v→v.oneCell' =true)(hx:aL E.N G x t):cO E O G ⟨dst,.box T x,ty,pos,after,g⟩ (bF (rT t) ()):=
 Jy (fun S a hf=>XQ.2 ⟨h1 _ _ (hx S a hf),hx S a hf⟩)
end
def Qb:HL→HL→Prop
 |[],_=>True
 |p::l,hs=>zu hs p.1=some p.2∧Qb l hs
theorem Qb.all{hs:HL}: ∀{l:HL},Qb l hs→ ∀p∈l,p∈hs
 |_::_,⟨h,_⟩,_,.head _=>sQ h
 |_::_,⟨_,h⟩,_,.tail _ hm=>Qb.all h _ hm
end

variable{O' :List OE}
theorem EffOK.perm{t:OI→Ty}(h:EffOK E O' G o post t)(k: ∀{w S},ee E.base E.B w S O→ee E.base E.B w S O')(m: ∀f∈O',f∈O):EffOK E O G o post t:=fun a w S hs ho hf hb=>
 nJ (fun _ _ ⟨v,S',x,h1,h2,h3,h4,h5⟩=>⟨v,S',x,h1,h2.more fun _ ⟨f,hf,hk⟩=>⟨f,m f hf,hk⟩,h3,h4,h5⟩) (h a w S hs (k ho) hf hb)
variable{x0:OE}
namespace EffOK
section
variable{t:OI→Ty}
theorem fr1(h:EffOK E (x1::x0::O) G o post t):EffOK E (x0::x1::O) G o post t:=h.perm (fun hw=>ee.swap hw) (fun f hf=>by simp only [kp]at hf ⊢;rcases hf with h|h|h<;>simp [h])
theorem fr2{x2:OE}(h:EffOK E (x2::x0::x1::O) G o post t):EffOK E (x0::x1::x2::O) G o post t:=h.perm (fun hw=>rm hw) (fun f hf=>by simp only [kp]at hf ⊢;rcases hf with h|h|h|h<;>simp [h])
theorem fr3{x2 x3:OE}(h:EffOK E (x3::x0::x1::x2::O) G o post t):EffOK E (x0::x1::x2::x3::O) G o post t:=h.perm (fun hw=>tw hw) (fun f hf=>by simp only [kp]at hf ⊢;rcases hf with h|h|h|h|h<;>simp [h])
theorem post_imp{post' :OI→List OE}(h:EffOK E O G o post t)(k: ∀{w S x},ee E.base E.B w S (post x)→ee E.base E.B w S (post' x)):EffOK E O G o post' t:=fun a w S hs ho hf hb=>
 nJ (fun _ _ ⟨v,S',x,h1,h2,h3,h4,h5⟩=>⟨v,S',x,h1,h2,h3,k h4,h5⟩) (h a w S hs ho hf hb)
end
end EffOK
variable{ats:Array TypeId}{mm:Bool}{zs:List α}
section
variable{ty:TypeId}
theorem J1{l:Option Nat}{foff:Nat}{v:β}{i:Int}(ti:TI E.P T sz bytes agg z)(hsz:q.sz=sz)(hset:gP r foff q set)(hoff:Nat.ble (foff+q.sz) r.sz=true)(hy:dC xs i=some y)(hz:xs.set i.toNat (set y v)=zs)(hp:aL E.N G p (tV (kz l (i.toNat*r.sz+foff))))(hx:aL E.N G x (tD q v)):EffOK E (cY r U l cap xs::O) G ⟨none,.store T p x,ty,pos,after,g⟩ (fun _=>cY r U l cap zs::O) (fun _=>BH):=zF (fun _ h=>(by cases h)) fun a w S hsat hown hf hbase=>by
 subst hz
 have h1:a.eval p=kz l (i.toNat*r.sz+foff):=hp S a hf
 obtain⟨ds,h2,h3⟩:=hx S a hf
 obtain⟨h0,hy'⟩:=lw hy
 have hlt:i.toNat<xs.length:=(pc.1 hy').1
 obtain⟨cells,hraw,hrc,hno⟩:=hown.1.1
 obtain⟨b,cur,rfl,hb,hle,hcs,h6⟩:=qA hown.1.1 hy'
 obtain⟨cur',hb',hle',hmax,hcs',hct⟩:=hraw
 have hcc:cur' =cur:=by rw [hb]at hb';injection hb' with e;injection e with e1;exact e1.symm
 subst hcc
 have hno' :S b=none:=hno b rfl
 have hoff' :=qc hoff
 have hl3:=q.len h3
 have hmul:i.toNat*r.sz+r.sz≤xs.length*r.sz:=by rw [←Nat.succ_mul];exact yO _ hlt
 have hmul2:xs.length*r.sz≤cur'.size:=by rw [hcs];exact yO _ hle
 obtain⟨w',hr,e1,e2,e3,e4,e5,e6⟩:=ke ti hsz h3 hb (off:=i.toNat*r.sz+foff) (by omega)
 have hrun:(execOp a.eval ⟨none,.store T p x,ty,pos,after,g⟩).run E.P w= .ok .skip w' :=by
  simp [execOp,h1,h2,Instr.storeAt,kz,aN,Instr.sureAddr,hr]
 have hnew:=hset S _ _ _ _ h6 h3
 have hrc' :=BV hnew hrc hlt
 have hcl:=lW hrc
 have hcells:(cur'.toList.take (i.toNat*r.sz+foff)++ds++cur'.toList.drop (i.toNat*r.sz+foff+q.sz)).take (xs.length*r.sz)=
   cells.take (i.toNat*r.sz)++(((cur'.toList.drop (i.toNat*r.sz)).take r.sz).take foff++ds++((cur'.toList.drop (i.toNat*r.sz)).take r.sz).drop (foff+q.sz))++cells.drop (i.toNat*r.sz+r.sz):=by
  subst hct
  apply G8
  intro j
  simp only [List.getElem?_take,List.getElem?_append,wh,Bx,yR,mt,FB]
  rcases m2 j (xs.length*r.sz)with hj|hj
  ·simp only [hj,nt]
   rcases m2 j (i.toNat*r.sz)with hj1|hj1
   ·rw [bQ (by omega),bQ (by omega),bQ (by omega),bQ (by omega),bQ (by omega),bQ (by omega)]
   ·rcases m2 j (i.toNat*r.sz+foff)with hj2|hj2
    ·rw [bQ (by omega),bQ (by omega),bQ (by omega),bQ (by omega),bI (by omega),bQ (by omega),bQ (by omega),bQ (by omega),bQ (by omega)]
     congr 1;omega
    ·rcases m2 j (i.toNat*r.sz+foff+q.sz)with hj3|hj3
     ·rw [bQ (by omega),bI (by omega),bQ (by omega),bI (by omega),bQ (by omega),bI (by omega)]
      congr 1;omega
     ·rw [bI (by omega)]
      rcases m2 j (i.toNat*r.sz+r.sz)with hj4|hj4
      ·rw [bQ (by omega),bI (by omega),bI (by omega),bQ (by omega)]
       congr 1;omega
      ·rw [bI (by omega),bQ (by omega)]
       congr 1;omega
  ·rw [bI (by omega),bI (by omega),bI (by omega)]
 obtain⟨g1,g2,g3⟩:=nI (O:=O) hsat (cY r U (some b) cap xs) (cY r U (some b) cap (xs.set i.toNat (set y v))) hown (fun k=>⟨fun h=>(od h).symm,fun h=>by rw [h];rfl⟩) (fun k=>⟨fun h=>(od h).symm,fun h=>by rw [h];rfl⟩) ⟨e1,e2,e3,e4.1,e4.2⟩ e6
  ⟨_,⟨_,e5,by rw [Aa];exact hle,hmax,by simp only [Cj,mt,Bx,yR,FB];omega,by rw [Aa];exact hcells⟩,hrc',fun k hk=>by rw [←od hk];exact hno'⟩ hno'
 exact⟨w',S,wk,hrun,g1.more fun c hc=>⟨_,oc ..,by rw [hc];rfl⟩,g2,g3⟩
theorem J2{v:α}{i:Int}(ti:TI E.P U sz bytes agg z)(hsz:r.sz=sz)(hy:dC xs i=some y)(hz:xs.set i.toNat v=zs)(hp:aL E.N G p (tV (aN b (i.toNat*r.sz))))(hv:aL E.N G x (tD r v)):EffOK E (bx (pH r n) T b xs::O) G ⟨none,.store U p x,ty,pos,after,g⟩ (fun _=>bx (pH r n) T b zs::O) (fun _=>BH):=zF (fun _ h=>(by cases h)) fun a w S hsat hown hf hbase=>by
 subst hz
 have h1:a.eval p=aN b (i.toNat*r.sz):=hp S a hf
 obtain⟨ds,h2,h3⟩:=hv S a hf
 obtain⟨⟨hno,cur,h5,h6⟩,_⟩:=hown.1
 obtain⟨h0,hy'⟩:=lw hy
 have hlt:i.toNat<xs.length:=(pc.1 hy').1
 have hl:=lW h6.2
 simp only [FB]at hl
 have hmul:i.toNat*r.sz+r.sz≤xs.length*r.sz:=by rw [←Nat.succ_mul];exact yO _ hlt
 obtain⟨w',hr,e1,e2,e3,e4,e5,e6⟩:=ke ti hsz h3 h5 (off:=i.toNat*r.sz) (by omega)
 have hrun:(execOp a.eval ⟨none,.store U p x,ty,pos,after,g⟩).run E.P w= .ok .skip w' :=by
  simp [execOp,h1,h2,Instr.storeAt,aN,Instr.sureAddr,hr]
 obtain⟨g1,g2,g3⟩:=nI (O:=O) hsat (bx (pH r n) T b xs) (bx (pH r n) T b (xs.set i.toNat v)) hown (fun _=>sU) (fun _=>sU) ⟨e1,e2,e3,e4.1,e4.2⟩ e6 ⟨hno,_,e5,by rw [Aa];exact h6.1,BV h3 h6.2 hlt⟩ hno
 exact⟨w',S,wk,hrun,g1.more fun c hc=>⟨_,oc ..,hc⟩,g2,g3⟩

section
theorem kV{x:α}(ti:TI E.P T sz bytes agg z)(hx: ∀S,r.rc S z x):
  EffOK E O G ⟨some d,.alloc T,ty,pos,after,g⟩ (fun i=>bx r T (i.h 0).2 x::O) (fun i=>tV (aN (i.h 0).2 0)):=fun a w S hs ho hf hb=>by
 obtain⟨zv,hzr,hzc⟩:=ti.zero w
 obtain⟨he,hs',hno⟩:=fS (w:=w) (.cells z.toArray T (0,0)) hs
 have hrun:(execOp a.eval ⟨some d,.alloc T,ty,pos,after,g⟩).run E.P w= .ok (.value (aN w.heap.size 0)) (w.alloc (.cells z.toArray T (0,0))):=by
  simp [execOp,Instr.alloc,hzr,newVar,newRow,hzc,aN]
 refine⟨fun c h=>(by cases h),?_⟩
 rw [hrun]
 exact⟨_,S,oi none w.heap.size,rfl,he.more fun _ hb=>hb.elim,hs',qD ho he (e:=bx r T w.heap.size x) ⟨hno,z.toArray,wp w _,by simpa using hx S⟩ (fun b hb=>yQ hb.symm) hb,rfl⟩
theorem Fm{f:FuncId}{xs:List Operand}{ts:List Ty}(hc:au E.P f=true)(hs:gk E.P f ts false r T ys)(hx:lB E.N G xs ts):
  EffOK E O G ⟨some d,.call ⟨.value (.func f),xs.toArray,ats⟩,ty,pos,after,g⟩ (fun i=>cY r T (i.h 0).1 (i.h 0).2 ys::O) (fun i=>tV (aD (i.h 0).1 (i.h 0).2 ys.length)):=Nf (mm:=false) hc hs hx (fun _ _ _ _ _=>rfl)
end
section
theorem hU{l:Option Nat}{o i:Nat}(hf:cG E.P T i=some (off,sz))(h0:Nat.beq sz 0=false)(hm:md mm r U l cap xs∈O)(hy:dC xs j=some y)(hp:aL E.N G p (tV (kz l o)))(he:o+off=n):
  cO E O G ⟨dst,.fieldAddr T p i,ty,pos,after,g⟩ (tV (kz l n)):=by
 subst he
 exact Ej hf h0 hm hy hp
theorem bK(hx:aL E.N G x (tV (aN b off))):cO E O G ⟨dst,.nilCheck x,ty,pos,after,g⟩ (tV (aN b off)):= .of_pure fun a w S _ _ hf=>by
 have h1:a.eval x=aN b off:=hx S a hf
 exact⟨aN b off,by simp [execOp,h1,aN],rfl⟩
theorem KH(hx:aL E.N G x (bF r y)):cO E O G ⟨dst,.nilCheck x,ty,pos,after,g⟩ (bF r y):= .of_pure fun a w S _ _ hf=>by
 have h0:=hx S a hf
 obtain⟨b,off,c,U,fr,h1,h2,h3⟩:=h0
 exact⟨_,by simp [execOp,h1],b,off,c,U,fr,rfl,h2,h3⟩
theorem uY{t:Ty}(ti:TI E.P U 1 bytes false z)(hp:aL E.N G p (bF (rT t) ())):cO E O G ⟨dst,.load U p,ty,pos,after,g⟩ t:=C1 ti hp
end
theorem pq(h:O=O')(k:RG E ops Q rest O' G):RG E ops Q rest O G:=by subst h;exact k
theorem hW{u:Value}(h:aL N G x (tV u))(ho:u.oneCell' =true):aL N G x (tD rV u):=fun S a hf=>yX.2 ⟨h S a hf,ho⟩
end

theorem Hp{l:Option Nat}{t' e' :TypeId}(ht:P.underlying t' =some (.slice e'))(h:zM mm r U l cap xs w S)(hs:dw xs lo (xs.length:Int)=some ys):
  ∃news,Src P r.sz t' (nR r.sz l cap lo.toNat ys.length) ys.length news w∧si r S news ys:=by
 obtain⟨cells,h1,h2,_⟩:=h
 obtain⟨lo',m,rfl,hm,h3,h4,rfl⟩:=fT hs
 have hm' :m=xs.length:=by omega
 subst hm'
 rw [Cd,Ab]
 cases l with
 |none=>
  have hx:xs=[]:=uL h1.1
  subst hx
  exact⟨[],by simpa [nR] using Src.ofNil w ht 0,by simp [si]⟩
 |some b=>
  obtain⟨cur,g1,g2,g3,g4,g5⟩:=h1
  have hlen:(xs.drop lo').length=xs.length-lo' :=by simp
  have hcl:=lW h2
  have hsp:xs=xs.take lo' ++xs.drop lo' :=(sS lo' xs).symm
  have htl:(xs.take lo').length=lo' :=by simp;omega
  have hr:si r S (cells.drop (lo' *r.sz)) (xs.drop lo'):=by
   rw [hsp]at h2
   have:=(pV h2).2
   rwa [htl]at this
  have hmul:lo' *r.sz≤xs.length*r.sz:=yO _ h3
  refine⟨cells.drop (lo' *r.sz),?_,hr⟩
  unfold nR
  refine Src.ofSlice w ht _ _ _ _ (lW hr) (fun j u hu=>?_) (zd hr)
  by_cases hc:cap=lo'
  ·have:xs.drop lo' =[]:=vf (by omega)
   rw [this]at hr
   have hr' :cells.drop (lo' *r.sz)=[]:=hr
   rw [hr']at hu;simp at hu
  ·simp only [hc,qa]
   rw [iV,xq g1]
   rw [wh,←g5]at hu
   have hj:lo' *r.sz+j<xs.length*r.sz:=by
    have:=(pc.1 hu).1
    simp at this;omega
   rw [Ac hj]at hu
   simpa using hu
section
variable{ty:TypeId}
theorem Nn{l:Option Nat}{yt:TypeId}(ht:E.P.underlying t=some (.slice e))(hm:md mm r U l cap xs∈O)(hs:dw xs lo (xs.length:Int)=some ys)(hx:aL E.N G x (tV (nR r.sz l cap lo.toNat ys.length)))(hd:Nat.blt d E.N.n=true)(k: ∀b,(b=true→ys=[])→RG E ops Q rest O ((d,tD rB b)::G)):RG E ops Q (⟨some d,.binOp .eql t x (.const (.slice none 0 0)) yt,ty,pos,after,none⟩::rest) O G:= .of rfl fun a w S st=>by
 have h1:a.eval x=nR r.sz l cap lo.toNat ys.length:=hx S a st.facts
 obtain⟨⟨cells,hraw,_⟩,_⟩:=st.own.mem _ hm
 have hcn:a.eval (.const (.slice none 0 0))= .slice none 0 0:=rfl
 cases l with
 |none=>
  have hx0:xs=[]:=uL hraw.1
  have hy0:ys=[]:=by
   obtain⟨lo',m,_,_,_,_,rfl⟩:=fT hs
   subst hx0;simp
  have h3:(Op.equal t (.slice none 0 0) (.slice none 0 0)).run E.P w= .ok true w:=y5 fun d=>by
   simp [Op.equalIn,jr ht]
  have hrun:(execOp a.eval ⟨some d,.binOp .eql t x (.const (.slice none 0 0)) yt,ty,pos,after,none⟩).run E.P w= .ok (.value (.bool true)) w:=by
   simp [execOp,h1,nR,hcn,eqGuard,binOp,h3]
  refine⟨fun c h=>(by cases h),?_⟩
  rw [hrun]
  exact k true (fun _=>hy0) _ _ S (st.step (hY _ _ _) st.sat hd (iv.2 rfl))
 |some b=>
  obtain⟨ad,hv⟩: ∃ad,nR r.sz (some b) cap lo.toNat ys.length= .slice (some ad) ys.length (cap-lo.toNat):=⟨_,rfl⟩
  have h3:(Op.equal t (.slice (some ad) ys.length (cap-lo.toNat)) (.slice none 0 0)).run E.P w= .ok false w:=y5 fun d=>by
   simp [Op.equalIn,jr ht]
  have hrun:(execOp a.eval ⟨some d,.binOp .eql t x (.const (.slice none 0 0)) yt,ty,pos,after,none⟩).run E.P w= .ok (.value (.bool false)) w:=by
   simp [execOp,h1,hv,hcn,eqGuard,binOp,h3]
  refine⟨fun c h=>(by cases h),?_⟩
  rw [hrun]
  exact k false (fun e=>(by cases e)) _ _ S (st.step (hY _ _ _) st.sat hd (iv.2 rfl))
theorem Kc{t' :TypeId}{l l2:Option Nat}{cap2:Nat}{us:List α}{y:Operand}(ti:TI E.P T sz bytes agg z)(hsz:r.sz=sz)(hz:Nat.beq z.length sz=true)(h0:Nat.blt 0 sz=true)(h128:Nat.ble bytes 2048=true)(ht:E.P.underlying t=some (.slice T))(ht' :t' =t)(hd:Nat.blt d E.N.n=true)(hx:aL E.N G x (tV (aD l cap n)))(hm:md mm r U l2 cap2 us∈cY r T l cap xs::O)(hs:dw us lo (us.length:Int)=some ys)(hy:aL E.N G y (tV (nR r.sz l2 cap2 lo.toNat ys.length)))(happ:ko xs ys=some zs)(k: ∀l' cap',RG E ops Q rest (cY r T l' cap' zs::O) ((d,tV (aD l' cap' zs.length))::G))(hn:n=xs.length:=by rfl):
  RG E ops Q (⟨some d,.call ⟨.builtin .append,#[x,y],#[t,t']⟩,ty,pos,after,none⟩::rest) (cY r T l cap xs::O) G:=by
 subst ht'
 exact yC (u:=fun cap' l' =>tV (aD l' cap' zs.length)) ti hsz hz h0 h128 ht hd hx (fun a w S st=>by
  have h1:a.eval y=nR r.sz l2 cap2 lo.toNat ys.length:=hy S a st.facts
  rw [h1]
  exact Hp ht (st.own.mem _ hm).1 hs) happ (fun _ _ _ _ _=>rfl) k hn
end

abbrev XL(α X:Type):=(σ:Type)→(α→σ→Option (Bool×σ))→σ→Option (σ×X)
def SC(P:Program){α X:Type}(args:α→List Ty)(it:XL α X)(Ob:X→OI→List OE)(fid:FuncId)(cap:Array Value)(fp:Nat→Prop)(w:World)(S:SH):Prop:=
 ∀(σ:Type) (y:α→σ→Option (Bool×σ)) (s:σ) (R:σ×X),it σ y s=some R→ ∀I yv,UV P args y I yv→ ∀e,I s e→e.p w S→(∀k,e.fp k→ ¬fp k)→
  Calls P fid (#[yv]++cap) w fun en w' => ∃e' S' j,(∃v,en= .returned v)∧I R.1 e' ∧gW (fun k=>e.fp k∨fp k) w S w' S' ∧jp w' S' ∧e'.p w' S' ∧ee 0 qP w' S' (Ob R.2 j)∧(∀k,e'.fp k∨IW (Ob R.2 j) k→(e.fp k∨fp k)∨w.heap.size≤k)∧ ∀k,e'.fp k→ ¬IW (Ob R.2 j) k
def TR(P:Program){α X:Type}(args:α→List Ty)(it:XL α X)(Ob:X→OI→List OE)(v:Value)(fp:Nat→Prop):OE where
 fp:=fp
 p:=fun w S=>(∀k,fp k→k<w.heap.size)∧ ∃fid cap,v= .func (.func fid) #[] cap∧au P fid=true∧
  ∀C w' S',gW C w S w' S' →(∀k,fp k→ ¬C k)→jp w' S' →SC P args it Ob fid cap fp w' S'
 here:=fun h k hk=>h.1 k hk
 kept:=by
  rintro C w w' S S' ⟨h1,fid,cap,h2,h3,h4⟩ k hC
  refine⟨fun b hb=>wg (h1 b hb) k.size,fid,cap,h2,h3,fun C' w'' S'' k' hC' hs=>?_⟩;exact h4 (fun b=>C b∨C' b) w'' S'' ((k.more fun b hb=> .inl hb).trans (k'.more fun b hb=> .inr hb)) (fun b hb h=>h.elim (hC b hb) (hC' b hb)) hs
def Vy:Unit→OI→List OE:=fun _ _=>[]
def itU{α:Type}(it:It α):XL α Unit:=fun σ y s=>(it σ y s).map fun r=>(r,())
variable{args:α→List Ty}{fp:Nat→Prop}{s:iZ}
theorem VB{it:It α}(h:(SQ P args it v fp).p w S):(TR P args (itU it) Vy v fp).p w S:=by
 obtain⟨h1,fid,cap,h2,h3,h4⟩:=h
 refine⟨h1,fid,cap,h2,h3,fun C w' S' k hC hs σ y s R hit I yv hy e he hep hap=>?_⟩
 unfold itU at hit
 cases hq:it σ y s with
 |none=>rw [hq]at hit;cases hit
 |some s' =>
  rw [hq]at hit
  obtain rfl:(s',())=R:=by simpa using hit
  refine(h4 C w' S' k hC hs σ y s s' hq I yv hy e he hep hap).mono ?_
  rintro en w2 ⟨e',S2,g1,g2,g3,g4,g5,g6⟩
  exact⟨e',S2,wk,g1,g2,g3,g4,g5,trivial,fun k hk=>hk.elim (fun h=>(g6 k h).imp .inl id) (fun⟨_,h,_⟩=>by cases h),fun k _ ⟨_,h,_⟩=>by cases h⟩
section
variable{it:It α}
theorem UP(h:CG E Q c (TR P args (itU it) Vy v fp::O) G):CG E Q c (SQ P args it v fp::O) G:=fun a w S st=>h a w S (st.own_map fun⟨⟨g1,g2⟩,g3,g4⟩=>⟨⟨VB g1,g2⟩,g3,g4⟩)
end

section
variable{ty:TypeId}
end

def tH(l:Nat)(r:Loop)(st:LoopState)(pd:Option Code):OE where
 fp:=fun k=>k=l
 p:=fun w S=>S l=none∧w.heap[l]? =some (.loop {r with state:=st,pending:=pd})
 here:=by
  intro w S h k hk
  subst hk
  exact(sr.1 h.2).1
 kept:=by
  intro C w w' S S' h k hC
  have hlt:=(sr.1 h.2).1
  exact⟨by rw [k.old l hlt (hC l rfl)];exact h.1,by rw [k.heap l hlt (hC l rfl)];exact h.2⟩
def SJ(j:Option Nat):LoopState:=if j.isNone then .ready else .done
def TB(E:En)(l:Nat)(rec:Loop){σ ι:Type}(Oi:ι→List OE)(dat:ι→σ)(jc:Nat→Code)(r:Option Nat×σ):Ending→World→Prop:=fun en w' =>
 ∃i S',en= .returned (.bool r.1.isNone)∧dat i=r.2∧gW E.B E.w0 E.S0 w' S' ∧jp w' S' ∧ee E.base E.B w' S' (tH l rec (SJ r.1) (r.1.map jc)::Oi i)
def Fq{α σ:Type}(f:α→σ→Option (Option Nat×σ)):α→Option Nat×σ→Option (Bool×(Option Nat×σ)):=fun x s=>
 match s.1 with
 |some _=>none
 |none=>(f x s.2).map fun r=>(r.1.isNone,r)
variable{X:Type}{Ob:X→OI→List OE}{rec:Loop}{ι:Type}
section
theorem CY{l:Nat}{st st' :LoopState}{pd pd' :Option Code}{O:List OE}(h:ee base B w S (tH l rec st pd::O))(hs:jp w S):
  gW (fun k=>k=l) w S (w.putObj l (.loop {rec with state:=st',pending:=pd' })) S∧jp (w.putObj l (.loop {rec with state:=st',pending:=pd' })) S∧ee base B (w.putObj l (.loop {rec with state:=st',pending:=pd' })) S (tH l rec st' pd' ::O):=by
 obtain⟨hno,hl⟩:=h.1.1
 have hlt:=(sr.1 hl).1
 have hext:gW (fun k=>k=l) w S (w.putObj l (.loop {rec with state:=st',pending:=pd' })) S:=⟨rfl,rfl,rfl,gB _,by simp,fun k _ hk=>World.putObj_heap_other hk,SH.le_refl _,fun _ _ _=>rfl⟩
 refine⟨hext,hs.same fun k o hk=>?_,⟨⟨hno,World.putObj_heap_same hlt⟩,h.1.2⟩,h.2.1,h.2.2.ext hext fun g hg k hk hkl=>h.2.1 g hg k hkl hk⟩
 have hne:k≠l:=fun e=>by subst e;rw [hno]at hk;cases hk
 exact World.putObj_heap_other hne
theorem NA{l:Nat}{body:Code}{R:Ending→World→Prop}(h:CG E (roundPost E.P l R) body (tH l rec .busy none::O) G):AT E (Sq E l body R) .normal (tH l rec .ready none::O) G:=fun a w S st=>by
 obtain⟨h1,h2,h3⟩:=CY (st' := .busy) (pd' :=none) st.own st.sat
 obtain⟨_,hl⟩:=st.own.1.1
 exact⟨_,run_beginRound hl rfl,h a _ S ⟨st.ext.step h1 (fun c hc=>st.own.1.2 c hc),h2,h3,st.facts⟩⟩
theorem GZ{l:Nat}{σ:Type}{Oi:ι→List OE}{dat:ι→σ}{jc:Nat→Code}{s2:σ}(q:Nat)(hq:jc q= .ret)(i:ι)(hi:dat i=s2)(hO:O=Oi i):AT E (roundPost E.P l (TB E l rec Oi dat jc (some q,s2))) .ret (tH l rec .busy none::O) G:=fun a w S st=>by
 subst hO
 obtain⟨h1,h2,h3⟩:=CY (st' := .done) (pd' :=some .ret) st.own st.sat
 obtain⟨_,hl⟩:=st.own.1.1
 exact⟨_,_,run_endRound (some .ret) hl,i,S,rfl,hi,st.ext.step h1 (fun c hc=>st.own.1.2 c hc),h2,by rw [Ch,hq];exact h3⟩
theorem Nu{it:XL α X}{σ:Type}(Oi:ι→List OE)(dat:ι→σ)(jc:Nat→Code){f:α→σ→Option (Option Nat×σ)}{R:(Option Nat×σ)×X}{g:Operand}{ps:List Nat}{assign body:Code}(hr:E.r=none)(hg:aL E.N G g (tV v))(i0:ι)(hO:O=TR E.P args it Ob v fp::Oi i0)(hit:it (Option Nat×σ) (Fq f) (none,dat i0)=some R)(hps: ∀x,ps.length=(args x).length)(hpn:(ps.all fun d=>Nat.blt d E.N.n)=true)(hbody: ∀(i:ι) (x:α) (r:Option Nat×σ),f x (dat i)=some r→ ∀(l:Nat) (rec:Loop) (w1:World) (S1:SH) (B1:Nat→Prop),
   CG ⟨E.P,⟨E.N.n,[]⟩,B1,w1,S1,some l⟩ (Sq ⟨E.P,⟨E.N.n,[]⟩,B1,w1,S1,some l⟩ l body (TB ⟨E.P,⟨E.N.n,[]⟩,B1,w1,S1,some l⟩ l rec Oi dat jc r)) assign (tH l rec .ready none::Oi i) (EQ ps (args x) G))(k: ∀i' j,dat i' =R.1.2→ ∀b,(R.1.1=none→AT ⟨E.P,⟨E.N.n,wJ b::E.N.ds⟩,E.B,E.w0,E.S0,E.r⟩ Q .normal (G2 b::(Ob R.2 j++Oi i')) G)∧
   (∀q,R.1.1=some q→CG ⟨E.P,⟨E.N.n,wJ b::E.N.ds⟩,E.B,E.w0,E.S0,E.r⟩ Q (jc q) (G2 b::(Ob R.2 j++Oi i')) G)):CG E Q (.rangeFunc g ps.toArray assign body) O G:=fun a w S st=>by
 subst hO
 refine wpIn_rangeFunc fun fn _=>?_
 have hr0:(fw E.r).round=none:=hr
 have hfw:fw E.r=fw none:=by rw [hr]
 rw [hr0]
 obtain⟨rec,hrec⟩: ∃rec:Loop,rec={state:= .ready,pending:=none,fn,tmps:=a.tmps,params:=ps.toArray,assign,body,defers:=w.heap.size}:=⟨_,rfl⟩
 obtain⟨x1,x2,x3⟩:=fS (w:=w) (.deferred (some [])) st.sat
 obtain⟨y1,y2,y3⟩:=fS (w:=w.alloc (.deferred (some []))) (.loop rec) x2
 obtain⟨W1,hW1⟩: ∃W1,(w.alloc (.deferred (some []))).alloc (.loop rec)=W1:=⟨_,rfl⟩
 rw [hW1]at y1 y2
 have hsz:(w.alloc (.deferred (some []))).heap.size=w.heap.size+1:=by simp
 rw [hsz]at y3
 have hext:gW qP w S W1 S:=x1.trans y1
 have hL1:W1.heap[w.heap.size+1]? =some (.loop rec):=by
  rw [←hW1];have:=World.alloc_heap_new (w.alloc (.deferred (some []))) (.loop rec);rwa [hsz]at this
 have hK1:W1.heap[w.heap.size]? =some (.deferred (some [])):=by
  rw [y1.heap w.heap.size (by omega) (fun h=>h)];exact World.alloc_heap_new w _
 have hW1s:W1.heap.size=w.heap.size+2:=by rw [←hW1];simp
 have hg' :a.eval g=v:=hg S a st.facts
 obtain⟨hit1,hap,hoi⟩:=st.own
 obtain⟨⟨hfp,gf,cap,hv,hcal,hcall⟩,hbase⟩:=hit1
 have hbl:=st.base_le
 have hoi1:ee E.base E.B W1 S (Oi i0):=hoi.ext0 hext
 have hlt: ∀f∈Oi i0,∀k,f.fp k→k<w.heap.size:=fun f hf k hk=>f.here (ee.mem hoi f hf).1 k hk
 refine⟨w.heap.size+1,[wJ w.heap.size],W1,{target:= .fn (.func gf) cap,args:= #[.func (.yield (w.heap.size+1)) #[] #[]]},W1,gf,
  #[.func (.yield (w.heap.size+1)) #[] #[]]++cap,W1,?_,?_,fun _ _=>trivial,?_,fun h=>(by cases h),?_⟩
 ·rw [←hW1,hrec];exact run_enterLoop_outer _ _ _ _ _
 ·simp only [resolve,hg',hv]
  simp [go_sem]
 ·simp [invoke,go_sem,f7 hcal]
 rw [hfw]
 refine nq.2 ?_
 have hyld:UV E.P args (Fq f) (fun s e=> ∃i,dat i=s.2∧e=qR S (tH (w.heap.size+1) rec (SJ s.1) (s.1.map jc)::Oi i)) (.func (.yield (w.heap.size+1)) #[] #[]):=by
  refine⟨_,rfl,?_⟩
  rintro x ⟨j0,s⟩ r hy e ⟨i,hi,rfl⟩ w2 S2 vs hs2 ⟨hle,hown⟩ hvs
  cases j0 with
  |some q=>unfold Fq at hy;cases hy
  |none=>
  have hi' :dat i=s:=hi
  subst hi'
  obtain⟨r2,hs2',rfl⟩: ∃r2,f x (dat i)=some r2∧r=(r2.1.isNone,r2):=by
   unfold Fq at hy
   cases hf:f x (dat i)with
   |none=>simp only [hf]at hy;cases hy
   |some s2=>simp only [hf]at hy;exact⟨s2,rfl,by simpa using hy.symm⟩
  have hl2:=hown.1.1.2
  have hvl:=hvs.length
  have hyr:=run_yield (P:=E.P) (args:=vs.toArray) hl2 (by rw [hrec];simp [hps x,hvl])
  refine⟨_,_,_,_,hyr,roundIn_of_wpIn trivial ?_⟩
  have hown' :ee 0 qP w2 S2 (tH (w.heap.size+1) rec .ready none::Oi i):=hown
  have:=hbody i x r2 hs2' (w.heap.size+1) rec w2 S2 (fun k=> ∃f∈tH (w.heap.size+1) rec .ready none::Oi i,f.fp k)
   {tmps:=(ps.zip vs).foldl (fun t (p:Nat×Value)=>t.setIfInBounds p.1 p.2) a.tmps,defers:=[]} w2 S2
   ⟨hY _ _ _,hs2,nN hown' fun f hf k hk=> .inr ⟨f,hf,hk⟩,yA ps (args x) vs ⟨a.tmps,[]⟩ G (hps x) hvs hpn ⟨st.facts.size,rfl,fun j t h=>t.mono hle (st.facts.at_ j t h)⟩⟩
  rw [hrec]
  rw [hrec]at this
  rw [vZ]
  refine wpIn_mono this ?_
  intro e a3 w3 hp
  cases e with
  |normal=>
   obtain⟨w4,hb4,hp4⟩:=hp
   refine⟨w4,hb4,wpIn_mono hp4 ?_⟩
   have hR: ∀en w',TB ⟨E.P,⟨E.N.n,[]⟩,fun k=> ∃f∈tH (w.heap.size+1) rec .ready none::Oi i,f.fp k,w2,S2,some (w.heap.size+1)⟩ (w.heap.size+1) rec Oi dat jc r2 en w' →
     ∃e' S',en= .returned (.bool r2.1.isNone)∧(∃i',dat i' =r2.2∧e' =qR S (tH (w.heap.size+1) rec (SJ r2.1) (r2.1.map jc)::Oi i'))∧gW (qR S (tH (w.heap.size+1) rec .ready none::Oi i)).fp w2 S2 w' S' ∧jp w' S' ∧e'.p w' S' ∧ ∀k,e'.fp k→(qR S (tH (w.heap.size+1) rec .ready none::Oi i)).fp k∨w2.heap.size≤k:=by
    rintro en w' ⟨i',S',h1,h2,h3,h4,h5⟩
    exact⟨_,S',h1,⟨i',h2,rfl⟩,h3,h4,⟨SH.le_trans hle h3.keep,h5.weak⟩,fun k ⟨f,hf,hk⟩=>((ee.mem h5 f hf).2 k hk).symm⟩
   rw [hrec]at hR
   intro e5 a5 w5 hp5
   cases e5<;>simp only [roundPost]at hp5 ⊢
   case normal=>obtain⟨v5,w6,h1,h2⟩:=hp5;exact⟨v5,w6,h1,hR _ _ h2⟩
   case ret=>obtain⟨v5,w6,h1,h2⟩:=hp5;exact⟨v5,w6,h1,hR _ _ h2⟩
   case exit=>obtain⟨v5,w6,h1,h2⟩:=hp5;exact⟨v5,w6,h1,hR _ _ h2⟩
   case goto=>obtain⟨v5,w6,h1,h2⟩:=hp5;exact⟨v5,w6,h1,hR _ _ h2⟩
  |_=>exact hp
 have hrecE:W1.heap[w.heap.size+1]? =some (.loop {rec with state:= .ready,pending:=none}):=by rw [hL1,hrec]
 have he0:(qR S (tH (w.heap.size+1) rec .ready none::Oi i0)).p W1 S:=⟨SH.le_refl _,⟨⟨y3,hrecE⟩,fun _ _=> .inl (jz _)⟩,fun f hf k hk hfk=>by have:=hlt f hf k hfk;have hk' :k=w.heap.size+1:=hk;omega,hoi1.weak⟩
 have hap0: ∀k,(qR S (tH (w.heap.size+1) rec .ready none::Oi i0)).fp k→ ¬fp k:=by
  rintro k ⟨f,hf,hk⟩ hfk
  rcases kp.1 hf with rfl|hf
  ·have:=hfp k hfk;have hk' :k=w.heap.size+1:=hk;omega
  ·exact hap f hf k hfk hk
 refine(hcall qP W1 S hext (fun _ _ h=>h) y2 _ (Fq f) (none,dat i0) R hit _ _ hyld _ ⟨i0,rfl,rfl⟩ he0 hap0).mono ?_
 rintro en w2 ⟨e',S2,j,⟨vr,rfl⟩,⟨i',hi',rfl⟩,hx2,hs2,⟨hle2,hown2⟩,hob,hnew,hapo⟩
 have hl2:=hown2.1.1.2
 have hnb: ∀k,(G2 w.heap.size).fp k→ ¬((qR S (tH (w.heap.size+1) rec .ready none::Oi i0)).fp k∨fp k):=by
  rintro k hk h
  have hk' :k=w.heap.size:=hk
  subst hk'
  rcases h with⟨f,hf,hfk⟩|h
  ·rcases kp.1 hf with rfl|hf
   ·have hk' :w.heap.size=w.heap.size+1:=hfk;omega
   ·have:=hlt f hf _ hfk;omega
  ·have:=hfp _ h;omega
 have hBin: ∀k,((qR S (tH (w.heap.size+1) rec .ready none::Oi i0)).fp k∨fp k)→E.w0.heap.size≤k∨E.B k:=by
  rintro k (⟨f,hf,hk⟩|h)
  ·rcases kp.1 hf with rfl|hf
   ·left;have hk' :k=w.heap.size+1:=hk;have:E.w0.heap.size≤w.heap.size:=hbl;omega
   ·exact(ee.mem hoi f hf).2 k hk
  ·exact hbase k h
 have hBn: ∀k,((qR S (tH (w.heap.size+1) rec (SJ R.1.1) (R.1.1.map jc)::Oi i')).fp k∨IW (Ob R.2 j) k)→E.base≤k∨E.B k:=fun k hk=>(hnew k hk).elim (hBin k) (fun h=> .inl (by have h1:E.base≤w.heap.size:=hbl;have h2:W1.heap.size≤k:=h;omega))
 have hb2:ee E.base E.B w2 S2 (tH (w.heap.size+1) rec (SJ R.1.1) (R.1.1.map jc)::(Ob R.2 j++Oi i')):=by
  obtain⟨q1,q2,q3⟩:=hown2
  refine ee.cons ⟨q1.1,fun k hk=>hBn k (.inl ⟨_,oc ..,hk⟩)⟩ (fun f hf=>?_) (zQ (nN hob fun f hf k hk=>hBn k (.inr ⟨f,hf,hk⟩)) (nN q3 fun f hf k hk=>hBn k (.inl ⟨f,oS _ hf,hk⟩)) fun e he f hf k hek hfk=>hapo k ⟨f,oS _ hf,hfk⟩ ⟨e,he,hek⟩)
  rcases yJ.1 hf with hf|hf
  ·exact fun k hk hfk=>hapo k ⟨_,oc ..,hk⟩ ⟨f,hf,hfk⟩
  ·exact q2 f hf
 have hend:SJ R.1.1≠ .busy:=by unfold SJ;split<;>simp
 obtain⟨z1,z2,z3⟩:=CY (st' := .exhausted) (pd' :=R.1.1.map jc) hb2 hs2
 have hdf:(G2 w.heap.size).p W1 S:=⟨x3,hK1⟩
 have UU:(G2 w.heap.size).p w2 S2:=(G2 w.heap.size).kept hdf hx2 hnb
 have hd3:=(G2 w.heap.size).kept UU z1 (fun k hk hkl=>by have h1:k=w.heap.size:=hk;have h2:k=w.heap.size+1:=hkl;omega)
 have stE:St ⟨E.P,⟨E.N.n,wJ w.heap.size::E.N.ds⟩,E.B,E.w0,E.S0,E.r⟩ (G2 w.heap.size::(Ob R.2 j++Oi i')) G {a with defers:=[wJ w.heap.size]++a.defers} (w2.putObj (w.heap.size+1) (.loop {rec with state:= .exhausted,pending:=R.1.1.map jc})) S2:=by
  refine⟨((st.ext.step0 hext).step hx2 hBin).step z1 (fun c hc=>z3.1.2 c hc),z2,?_,?_⟩
  ·refine ee.cons ⟨hd3,fun k hk=> .inl (by have h1:k=w.heap.size:=hk;rw [h1];exact hbl)⟩ (fun f hf k hk hfk=>?_) z3.2.2
   have h1:k=w.heap.size:=hk
   have h2:((qR S (tH (w.heap.size+1) rec (SJ R.1.1) (R.1.1.map jc)::Oi i')).fp k∨IW (Ob R.2 j) k):=by
    rcases yJ.1 hf with hf|hf
    ·exact .inr ⟨f,hf,hfk⟩
    ·exact .inl ⟨f,oS _ hf,hfk⟩
   rcases hnew k h2 with h|h
   ·exact hnb k hk h
   ·omega
  ·refine⟨st.facts.size,?_,fun j t hj=>t.mono (SH.le_trans (SH.le_refl S) hle2) (st.facts.at_ j t hj)⟩
   show wJ w.heap.size::a.defers=_
   rw [st.facts.defers]
 obtain⟨k1,k2⟩:=k i' j hi' w.heap.size
 refine⟨_,_,run_endLoop hl2 hend,?_⟩
 cases hR1:R.1.1 with
 |none=>
  rw [hR1]at stE
  exact k1 hR1 _ _ S2 stE
 |some q=>
  rw [hR1]at stE
  have:=k2 q hR1 _ _ S2 stE
  show(jc q).wpIn (fw none) 0 E.P Q _ _
  have hE:fw (⟨E.P,⟨E.N.n,wJ w.heap.size::E.N.ds⟩,E.B,E.w0,E.S0,E.r⟩:En).r=fw none:=hfw
  rw [hE]at this
  exact this
end

def MM(l:List (Option Nat×Nat)):OI:={h:=fun n=>l.getD n (none,0)}
def ku(P:Program){A X ρ:Type}(args:A→List Ty)(Ob:X→OI→List OE)(res:ρ→Ty)(f:X→A→Option (ρ×X)):Ty where
 p:=fun S v=> ∀x y R,f x y=some R→ ∃fid fst cap,v= .func (.func fid) fst cap∧au P fid=true∧ ∀i w S' vs,SH.le S S' →jp w S' →vO S' (args y) vs→ee 0 qP w S' (Ob x i)→
  Calls P fid (fst++vs.toArray++cap) w fun en w' => ∃j v S'',en= .returned v∧(res R.1).p S'' v∧gW (IW (Ob x i)) w S' w' S'' ∧jp w' S'' ∧ee 0 qP w' S'' (Ob R.2 j)∧ ∀k,IW (Ob R.2 j) k→IW (Ob x i) k∨w.heap.size≤k
 mono:=fun h k x y R hf=>by
  obtain⟨fid,fst,cap,e,hc,hs⟩:=k x y R hf
  exact⟨fid,fst,cap,e,hc,fun i w S' vs hle=>hs i w S' vs (SH.le_trans h hle)⟩
variable{A ρ:Type}{res:ρ→Ty}
theorem Mb{args:A→List Ty}:(ku P args Ob res (fun _ _=>none)).p S v:=fun _ _ _ h=>by cases h
section
section
variable{ty:TypeId}
theorem oF{args:A→List Ty}{f:X→A→Option (ρ×X)}{fid:FuncId}(hc:au E.P fid=true)(hs: ∀x y R,f x y=some R→ ∀i,jh E.P fid (args y) (Ob x i) (fun _:OI=>res R.1) (fun j=>Ob R.2 j)):
  aL E.N G (.func fid) (ku E.P args Ob res f):=fun S a _ x y R hR=>
 ⟨fid,#[],#[],rfl,hc,fun i w' S' vs _ hsat hv ho=>by
  rw [show(#[]++vs.toArray++ #[]:Array Value)=vs.toArray from by simp]
  exact hs x y R hR i w' S' vs hsat hv ho⟩
end
theorem GI{args:A→List Ty}{f:X→A→Option (ρ×X)}{x:X}{y:A}{R:ρ×X}{i:OI}{ty:TypeId}{fo:Operand}{xs:List Operand}(Or:List OE)(hO:O=Ob x i++Or)(hf:aL E.N G fo (ku E.P args Ob res f))(hR:f x y=some R)(hx:lB E.N G xs (args y))(hpost: ∀j,Ob R.2 j++Or=post j):
  EffOK E O G ⟨some d,.call ⟨.value fo,xs.toArray,ats⟩,ty,pos,after,g⟩ post (fun _=>res R.1):=fun a w S hsat ho hF hb=>by
 subst hO
 obtain rfl:(fun j=>Ob R.2 j++Or)=post:=funext hpost
 obtain⟨fid,fst,cap,e,hc,hs⟩:=hf S a hF x y R hR
 have hr:(execOp a.eval ⟨some d,.call ⟨.value fo,xs.toArray,ats⟩,ty,pos,after,g⟩).run E.P w= .ok (.enter fid (fst++(xs.map a.eval).toArray++cap)) w:=by
  simp [execOp,resolve,e,Deferred.ofValue,invoke,f7 hc]
 refine⟨fun c h=>(by cases h),?_⟩
 rw [hr]
 exact(hs i w S _ (SH.le_refl _) hsat (hx.tys hF) (p8 ho).1.weak).mono fun en w' ⟨j,v,S',he,hv,h1,h2,h3,h4⟩=>⟨_,he,v,S',j,rfl,h1.more fun b ⟨f,hf,hb⟩=>⟨f,EA _ hf,hb⟩,h2,ee.turn ho hb h1 h3 h4,hv⟩
section
variable{N:Nat}{w0:World}{S0:SH}{fn:Func}{O1:List OE}{t:ι→Ty}{O2:ι→List OE}
end
end
variable{et kt:TypeId}{kv:κ→Value}{os:List (Option Nat×Nat)}
section
variable [DecidableEq κ]{V:MV β}{k:κ}{i v:Operand}{dst:Option Nat}{ty:TypeId}
theorem jm{γ:β→Ty}{y:β}(hm:E.P.underlying t=some (.map kt et))(hk:LR E.P kt kv)(hx:aL E.N G x (tV (pI b)))(hi:Fx E.N G i (kv k))(hv:aL E.N G v (γ y))
  (h: ∀os',RG E ops Q rest (C7 (Ow γ) kv b none os' (jS m k y)::O) G):
  RG E ops Q (⟨none,.insert t x i v,ty,pos,after,none⟩::rest) (C7 (Ow γ) kv b none os m::O) G:= .of rfl fun a w S st=>by
 have h1:a.eval x=pI b:=hx S a st.facts
 have h2:a.eval i=kv k:=hi S a st.facts
 have h3:(γ y).p S (a.eval v):=hv S a st.facts
 obtain⟨⟨hp,hfp⟩,hap,hO⟩:=st.own
 obtain⟨hno,hnb,es,clock,e3,e4,hst⟩:=hp
 obtain⟨q,hq,hdk,hinj⟩:=hk
 obtain⟨os1,p1,p2,_⟩:=yB hdk hinj (k:=k) 0 e4
 have hnb1: ∀o∈os1,o.1≠some b:=fun o ho=>by
  rcases p1 o ho with h|h
  ·exact hnb o h
  ·rw [h];exact fun e=>by cases e
 obtain⟨w',os',r,x1,x2,x3,x4⟩:=MP (V:=Ow γ) (E:=E) (y:=y) (o:=(none,0)) (val:=a.eval v) st.sat hm ⟨q,hq,hdk,hinj⟩ ⟨hno,hnb1,es,clock,e3,p2,hst⟩ ⟨rfl,h3⟩ (fun e=>by cases e) (fun _ _ _ e=>by cases e)
 have hrun:(execOp a.eval ⟨none,.insert t x i v,ty,pos,after,none⟩).run E.P w= .ok .skip w' :=by simp [execOp,h1,h2,r]
 refine⟨fun c h=>(by cases h),?_⟩
 rw [hrun]
 have hfp' : ∀j,(C7 (Ow γ) kv b none os' (jS m k y)).fp j→(C7 (Ow γ) kv b none os m).fp j:=fun j hj=>by
  rcases x4 j hj with(h|⟨o,ho,e⟩)|e
  ·exact .inl h
  ·rcases p1 o ho with h|h
   ·exact .inr ⟨o,h,e⟩
   ·rw [h]at e;cases e
  ·cases e
 exact h os' _ _ S ⟨st.ext.step x1 (fun c hc=>hfp c (.inl hc)),x2,⟨⟨x3,fun j hj=>hfp j (hfp' j hj)⟩,fun f hf j hj=>hap f hf j (hfp' j hj),hO.ext x1 fun f hf j hj hjb=>hap f hf j (.inl hjb) hj⟩,st.facts⟩
end

def uk{κ β:Type}(γ:β→Ty)(kv:κ→Value)(S:SH):List MapEntry→List (κ×β)→Prop
 |[],[]=>True
 |e::es,q::m=>e.key=kv q.1∧(γ q.2).p S e.val∧(∀p∈m,p.1≠q.1)∧uk γ kv S es m
 |_,_=>False
theorem vK{κ β:Type}{γ:β→Ty}{kv:κ→Value}{S S' :SH}(h:SH.le S S'): ∀{es:List MapEntry} {m:List (κ×β)},uk γ kv S es m→uk γ kv S' es m
 |[],[],_=>trivial
 |_::_,q::_,⟨h1,h2,h3,h4⟩=>⟨h1,(γ q.2).mono h h2,h3,vK h h4⟩
theorem Pa{κ β:Type} [DecidableEq κ]{γ:β→Ty}{kv:κ→Value}{w:World}{S:SH}: ∀{es:List MapEntry} {os:List (Option Nat×Nat)} {m:List (κ×β)},wj (Ow γ) kv w S none es os m→uk γ kv S es m
 |[],[],[],_=>trivial
 |_::_,_::_,_::_,⟨h1,h2,_,h4,h5⟩=>⟨h1,by rw [bI (by simp)]at h2;exact h2.2,h4,Pa h5⟩
theorem PF{κ β:Type} [DecidableEq κ]{γ:β→Ty}{kv:κ→Value}{w:World}{S:SH}: ∀{es:List MapEntry} {m:List (κ×β)},uk γ kv S es m→wj (Ow γ) kv w S none es (m.map fun _=>(none,0)) m
 |[],[],_=>trivial
 |_::_,_::_,⟨h1,h2,h3,h4⟩=>⟨h1,by rw [bI (by simp)];exact⟨rfl,h2⟩,fun _ _ _ h=>(by cases h),h3,PF h4⟩
def PM{κ β:Type}(γ:β→Ty)(kv:κ→Value)(m:List (κ×β)):Ty where
 p:=fun S v=> ∃b es clock,v=pI b∧S b=some (.map es clock)∧uk γ kv S es.toList m
 mono:=fun h ⟨b,es,cl,e,h1,h2⟩=>by
  obtain⟨o',h3,h4⟩:=h b _ h1
  have h5:o' = .map es cl:=h4
  subst h5
  exact⟨b,es,cl,e,h3,vK h h2⟩
section
variable [DecidableEq κ]{k:κ}{i:Operand}{γ:β→Ty}{dst:Option Nat}{ty:TypeId}
theorem Ba{z:β}{zv:Value}(hm:E.P.underlying t=some (.map kt et))(hk:LR E.P kt kv)(hz:ZV E.P et zv)(hzt: ∀S,(γ z).p S zv)(hx:aL E.N G x (PM γ kv m))(hi:Fx E.N G i (kv k)):
  cO E O G ⟨dst,.lookup t x i false,ty,pos,after,g⟩ (γ ((rW m k).getD z)):= .of_pure fun a w S hs ho hf=>by
 obtain⟨b,es,clock,h1,h3,h4⟩:=hx S a hf
 obtain⟨o',h5,h6⟩:=hs b _ h3
 have h7:o' = .map es clock:=h6
 subst h7
 obtain⟨q,hq,hd,hinj⟩:=hk
 have h2:a.eval i=kv k:=hi S a hf
 obtain⟨_,_,_,h8⟩:=yB hd hinj (k:=k) 0 (PF (w:=w) h4)
 rcases h8 with⟨g1,g2⟩|⟨y,o,e,j,g1,g2,g3,g4,g5⟩
 ·refine⟨zv,by simp [execOp,h1,h2,xH hm hq (hd k) h5 hz g2],by rw [g1];exact hzt S⟩
 ·refine⟨e.val,by simp [execOp,h1,h2,xH hm hq (hd k) h5 hz g4],by rw [g1];exact g3.2⟩
theorem St.settleMp{j:Nat}(h:St E (C7 (Ow γ) kv b none os m::O) G a w S)(hk:look G j=some (tV (pI b))): ∃S',St E O ((j,PM γ kv m)::G) a w S' :=by
 obtain⟨⟨hn,_,es,clock,h3,h4,_⟩,_⟩:=h.own.1
 obtain⟨h8,hle,_,_⟩:=yj h (.inl rfl) h3 (tf _) hn
 have hv:a.tmps.getD j undef=pI b:=h.facts.at_ j _ hk
 exact⟨_,h8.cons ⟨b,es,clock,hv,by simp [SH.set],vK hle (Pa h4)⟩⟩
theorem Bu{e:Exit}(j:Nat)(hk:look G j=some (tV (pI b)))(h:AT E Q e O ((j,PM γ kv m)::G)):AT E Q e (C7 (Ow γ) kv b none os m::O) G:=
 fun a w _ st=>let⟨S',st'⟩:=st.settleMp hk;h a w S' st'
end
def D9(P:Program){α β:Type}(args:α→List Ty)(res:β→Ty)(f:α→Option β):Ty where
 p:=fun S v=> ∀x y,f x=some y→ ∃fid cap,v= .func (.func fid) #[] cap∧au P fid=true∧ ∀w S' vs,SH.le S S' →jp w S' →vO S' (args x) vs→
  Calls P fid (vs.toArray++cap) w fun e w' => ∃v S'',e= .returned v∧gW qP w S' w' S'' ∧jp w' S'' ∧(res y).p S'' v
 mono:=fun h k x y hxy=>by
  obtain⟨f,cap,e,hc,k⟩:=k x y hxy
  exact⟨f,cap,e,hc,fun w S' vs hle=>k w S' vs (SH.le_trans h hle)⟩
theorem sX{res:β→Ty}{f:α→Option β}(h:aL N G x (iB P args res f)):aL N G x (D9 P args res f):=fun S a hf u y hxy=>by
 obtain⟨fid,cap,e,hc,k⟩:=h S a hf
 exact⟨fid,cap,e,hc,fun w S' vs=>k u y hxy w S' vs⟩
theorem Qa{res:β→Ty}:(D9 P args res (fun _:α=>(none:Option β))).p S v:=fun _ _ h=>by cases h
theorem MK{ty:TypeId}{res:β→Ty}{f:α→Option β}{fo:Operand}{x:α}{y:β}{xs:List Operand}(hfo:aL E.N G fo (D9 E.P args res f))(h:f x=some y)(hx:lB E.N G xs (args x)):
  cO E O G ⟨dst,.call ⟨.value fo,xs.toArray,ats⟩,ty,pos,after,g⟩ (res y):=fun a w S hS _ hF=>by
 obtain⟨fid,cap,e,hc,hs⟩:=hfo S a hF x y h
 have hr:(execOp a.eval ⟨dst,.call ⟨.value fo,xs.toArray,ats⟩,ty,pos,after,g⟩).run E.P w= .ok (.enter fid ((xs.map a.eval).toArray++cap)) w:=by
  simp [execOp,resolve,e,Deferred.ofValue,invoke,f7 hc]
 refine⟨fun c h=>(by cases h),?_⟩
 rw [hr]
 exact(hs w S _ (SH.le_refl _) hS (hx.tys hF)).mono fun e w' ⟨v,S',he,h1,h2,h3⟩=>⟨v,he,v,S',rfl,h1,h2,h3⟩

def GS:Nat:=1000000
def XR{α:Type}(r:Rp α)(x:α)(g:Nat):Ty where
 p:=fun S _=>(bF r x).p S (aN g 0)
 mono:=fun h k=>(bF r x).mono h k
theorem TV{x:α}{g:Nat}{vs:List Value}(hs:jp w S)(hg:(g,vs)∈glob)(hr: ∀S,r.rc S vs x):(bF r x).p S (aN g 0):=by
 obtain⟨c,T,fr,h1,h2⟩:=hs.gl _ hg
 refine⟨g,0,c,T,fr,rfl,h1,?_⟩
 rw [sa,←r.len (hr S)]
 have h3:c.toList.take vs.length=vs:=h2
 rw [h3]
 exact hr S
section
variable{ty:TypeId}
theorem OR{t:Ty}(hf:di N S a G)(h: ∀v,t.p S v):di N S a ((GS,t)::G):=⟨hf.size,hf.defers,fun j u hj=>by
 unfold look at hj
 cases hb:Nat.beq GS j with
 |true=>
  rw [hb]at hj
  simp only [cond_true,Option.some.injEq]at hj
  rw [←hj];exact h _
 |false=>
  rw [hb]at hj
  simp only [cond_false]at hj
  exact hf.at_ j u hj⟩
theorem Fw{x:α}{v:Nat}{vs:List Value}{t:Ty}(hg:(v,vs)∈glob)(hr: ∀S,r.rc S vs x)(h:cO E O ((GS,XR r x v)::G) o t):cO E O G o t:=fun a w S hs ho hf=>
 h a w S hs ho (OR hf fun _=>TV hs hg hr)
theorem ST{x:α}{v:Nat}:aL N ((GS,XR r x v)::G) (.global v) (bF r x):=fun S a hf=>hf.at_ GS (XR r x v) (by simp [look])
def zt(s:iZ)(i:Int):Option Int:=(dC s i).map fun b=>(b.toNat:Int)
theorem sN{ix:Operand}{i y:Int}(ht:E.P.underlying t=some .string)(hx:aL E.N G x (tD rS s))(hi:aL E.N G ix (tD (rI k) i))(hy:zt s i=some y):
  cO E O G ⟨dst,.index t x ix,ty,pos,after,g⟩ (tD (rI .u8) y):= .of_pure fun a w S _ _ hf=>by
 have h1:a.eval x= .string ⟨s.toArray⟩:=sW.1 (hx S a hf)
 have h2:a.eval ix= .int k i:=fg.1 (hi S a hf)
 unfold zt at hy
 cases hb:dC s i with
 |none=>rw [hb]at hy;cases hy
 |some b=>
  rw [hb]at hy
  obtain⟨g1,g2⟩:=lw hb
  have hlt:i.toNat<s.length:=(pc.1 g2).1
  have e:y=(b.toNat:Int):=by simpa using hy.symm
  have hsz:(ByteArray.mk s.toArray).size=s.length:=by simp [ByteArray.size]
  refine⟨.int .u8 y,?_,fg.2 rfl⟩
  have h3:=run_index_string (P:=E.P) w t ⟨s.toArray⟩ k i ht
  rw [dif_pos (by rw [hsz];omega)]at h3
  have h4:(ByteArray.mk s.toArray)[i.toNat]'(by rw [hsz];exact hlt)=b:=by
   have:=(pc.1 g2).2
   show s.toArray[i.toNat]=b
   simpa using this
  simp only [execOp,h1,h2,r0,h3,sq,AS]
  rw [h4,e]
theorem MF{u:iZ}{hi:Operand}(ht:E.P.underlying t=some .string)(hx:aL E.N G x (tD rS s))(hh:aL E.N G hi (tD (rI k) j))(hy:dw s 0 j=some u):
  cO E O G ⟨dst,.slice t x none (some hi) none,ty,pos,after,g⟩ (tD rS u):= .of_pure fun a w S _ _ hf=>by
 have h1:a.eval x= .string ⟨s.toArray⟩:=sW.1 (hx S a hf)
 have h2:a.eval hi= .int k j:=fg.1 (hh S a hf)
 obtain⟨l,m,e1,e2,e3,e4,e5⟩:=fT hy
 have el:l=0:=by omega
 subst el e2 e5
 have hsz:(ByteArray.mk s.toArray).size=s.length:=by simp [ByteArray.size]
 have h3:=run_slice_string_h (P:=E.P) w t ⟨s.toArray⟩ ht k (m:Int) (by omega) (by rw [hsz];omega)
 refine⟨_,by simp only [execOp,h1,h2,Option.map_none,Ch,r0,run_sliceAt_string w t _ _ _ _ ht,h3,sq,AS];rfl,sW.2 ?_⟩
 congr 1
 apply ByteArray.ext
 simp
end
open Go.MapKept (Stamped)
section
variable [DecidableEq κ]{V:MV β}
def tNx(b:Bool):Ty where
 p:=fun _ v=> ∃vs:List Value,v= .tuple (.mk (.bool b::vs))
 mono:=fun _ h=>h
end
section
variable [DecidableEq κ]{V:MV β}{r:Nat}{left:List κ}{cur:Option κ}{k:κ}{i v:Operand}{dst:Option Nat}{ty:TypeId}
theorem Gb{f:Bool}(hx:aL E.N G x (tNx f)):cO E O G ⟨dst,.extract x 0,ty,pos,after,g⟩ (tD rB f):=
 .of_pure fun a w S _ _ hf=>by
  obtain⟨vs,h1⟩:=hx S a hf
  exact⟨.bool f,by simp [execOp,h1,Instr.extract],iv.2 rfl⟩
end
open Go.RowKit

theorem M9(hs:jp w S)(h:Below w.heap.size w w')(hd:w.drawn≤w'.drawn):gW qP w S w' S∧jp w' S:=
 ⟨⟨h.os,h.tape,h.output,hd,h.size,fun k hk _=>h.block k hk,SH.le_refl _,fun _ _ _=>rfl⟩,hs.same fun b o hb=>h.block b (hs.lt hb)⟩
theorem Ix{f:FuncId}{t:iZ}(h: ∀w:World,Ma w→Calls P f #[.string ⟨s.toArray⟩] w fun e w' =>e= .returned (.string ⟨t.toArray⟩)∧Below w.heap.size w w'):bh P f [tD rS s] (tD rS t):=fun w S vs hs hv=>by
 match vs,hv with
 |[v],⟨h1,_⟩=>
  obtain rfl:=sW.1 h1
  refine(Ir (h w hs.tab) (fun w' hr=>by cases hr.1)).mono fun e w' ⟨⟨he,hb⟩,hd⟩=>?_
  obtain⟨k1,k2⟩:=M9 hs hb hd
  exact⟨_,S,he,k1,k2,sW.2 rfl⟩

def sm(xs:List Int):iZ:=xs.map fun n=>UInt8.ofNat n.toNat
theorem Dc: ∀(xs:List Int) (r:ByteArray),xs.foldl (fun r n=>r.push (UInt8.ofNat n.toNat)) r=⟨r.data++(sm xs).toArray⟩
 |[],r=>by simp [sm]
 |x::xs,r=>by
  rw [List.foldl_cons,Dc xs]
  simp [sm,ByteArray.push]
theorem wF{k:IntKind}{S:SH}: ∀{xs:List Int} {cs:List Value},si (rI k) S cs xs→cs=xs.map (Value.int k)
 |[],cs,h=>by rw [show cs=[]from h];rfl
 |x::xs,cs,⟨a,b,e,h1,h2⟩=>by
  rw [e,show a=[.int k x]from h1,wF h2]
  rfl
section
variable{ty:TypeId}
theorem MJ{xs:List Int}{st dt:TypeId}(hs:E.P.underlying st=some (.slice e))(he:E.P.underlying e=some (.int .u8))(hd:E.P.underlying dt=some .string)(ti:TI E.P e sz bytes agg z)(hsz:Nat.beq sz 1=true)(hx:aL E.N G x (tD (eX (rI .u8)) xs)):cO E O G ⟨dst,.convert st dt x,ty,pos,after,g⟩ (tD rS (sm xs)):= .of_pure fun a w S hsat _ hf=>by
 obtain⟨ad,cap,hv,hle,hmax,hsl⟩:=lS.1 (hx S a hf)
 refine⟨.string ⟨(sm xs).toArray⟩,?_,sW.2 rfl⟩
 have key: ∀(ad:Option Addr),EI (rI .u8) S ad xs→(ad=none→xs=[])→(Conv.bytesToString (.slice ad xs.length cap)).run E.P w= .ok (.string ⟨(sm xs).toArray⟩) w:=fun ad h h0=>by
  cases ad with
  |none=>rw [h0 rfl];rfl
  |some p=>
   have hl:(loadCells p xs.length).run E.P w= .ok (xs.map (Value.int .u8)).toArray w:=by
    rcases h with h|⟨b,off,cc,T,fr,h1,h2,h3⟩
    ·rw [h];rfl
    ·cases h1
     obtain⟨c',h4,h5⟩:=hsat.part h2 (lW h3)
     have h6:xs.length*(rI .u8).sz=xs.length:=by show xs.length*1=_;omega
     rw [h6]at h3 h5
     have h7:=wF h3
     exact uU h4 (h5.trans h7) (by simp)
   rw [run_bytesToString w p xs.length cap xs hl,Dc]
   simp [ByteArray.empty,ByteArray.emptyWithCapacity]
   rfl
 simp [execOp,hv,run_convert_bytes_string w st dt e _ _ _ hs he hd,key ad hsl (fun h=>by
  rcases hsl with h1|⟨b,off,cc,T,fr,h1,_⟩
  ·exact h1
  ·rw [h]at h1;cases h1)]
theorem MG(ha:E.P.underlying t=some (.array n e))(ti:TI E.P e sz bytes agg z)(hn:Nat.ble n maxLen=true)(hx:aL E.N G x (bF (pH r n) xs)):cO E O G ⟨dst,.slice t x none none none,ty,pos,after,g⟩ (tD (eX r) xs):= .of_pure fun a w S _ _ hf=>by
 obtain⟨b,off,c,T,fr,h1,h2,h3,h4⟩:=hx S a hf
 have hz:(⟨b,off,none⟩:Addr).add 0=⟨b,off,none⟩:=by rw [iV,yP]
 refine⟨.slice (some ⟨b,off,none⟩) n n,?_,lS.2 ⟨_,_,by rw [h3],by omega,qc hn,.inr ⟨b,off,c,T,fr,rfl,h2,by rw [h3];exact h4⟩⟩⟩
 by_cases h0:n=0
 ·subst h0
  simp [execOp,h1,Instr.sliceAt,jr ha,ti.sizeOf,Instr.sliceBounds,Instr.sureAddr]
 ·simp [execOp,h1,Instr.sliceAt,jr ha,ti.sizeOf,Instr.sliceBounds,Instr.sureAddr,h0,hz]
theorem MI{ix:Operand}{i:Int}(ht:E.P.underlying t=some (.array n e))(ti:TI E.P e sz bytes agg z)(hsz:r.sz=sz)(hag:r.agg=agg)(hx:aL E.N G x (tD (pH r n) xs))(hi:aL E.N G ix (tD (rI k) i))(hy:dC xs i=some y):cO E O G ⟨dst,.index t x ix,ty,pos,after,g⟩ (tD r y):= .of_pure fun a w S _ _ hf=>by
 obtain⟨cs,h1,h2,h3⟩:=hx S a hf
 have h1' :a.eval x= .agg cs.toArray:=h1
 have h4:a.eval ix= .int k i:=fg.1 (hi S a hf)
 obtain⟨g1,g2⟩:=lw hy
 have hlt:i.toNat<xs.length:=(pc.1 g2).1
 have hg:=BW h3 g2
 have hin:0≤i∧i<(n:Int):=⟨g1,by omega⟩
 refine⟨r.val ((cs.drop (i.toNat*r.sz)).take r.sz),?_,_,rfl,hg⟩
 have hp:(part e cs.toArray (i.toNat*sz)).run E.P w= .ok (r.val ((cs.drop (i.toNat*r.sz)).take r.sz)) w:=by
  subst hsz
  subst hag
  have hl:=r.len hg
  unfold part
  simp only [r0,ti.isAgg,sq]
  cases hA:r.agg with
  |true=>
   simp [ti.sizeOf,Rp.val,hA]
  |false=>
   have h1:=r.sc hA
   rw [h1,Nat.mul_one]at hl ⊢
   cases hd:cs.drop i.toNat with
   |nil=>rw [hd]at hl;simp at hl
   |cons v l=>
    have hv:cs[i.toNat]? =some v:=by
     have:=wh (xs:=cs) (i:=i.toNat) (j:=0)
     rw [hd]at this
     simpa using this.symm
    simp [Rp.val,hA,hv]
 simp [execOp,h1',h4,Instr.index,asIntOf,jr ht,hin,ti.sizeOf,hp]

def sH(s:iZ)(i:Nat):Nat×Nat:=Utf8.decode ⟨s.toArray⟩ i
def s3(s:iZ):Nat→Nat→List (Int×Int)
 |0,_=>[]
 |f+1,i=>if i<s.length then((i:Int),((sH s i).1:Int))::s3 s f (i+(sH s i).2)else []
def Hy(s:iZ):List (Int×Int):=s3 s (s.length+1) 0
theorem Sa(s:iZ)(i:Nat):1≤(sH s i).2:=by
 unfold sH Utf8.decode
 simp only []
 repeat' split
 all_goals simp
def Ea(r:Nat)(s:iZ)(left:List (Int×Int)):OE where
 fp:=fun j=>j=r
 p:=fun w S=>S r=none∧ ∃pos f,w.heap[r]? =some (.stringIter ⟨s.toArray⟩ pos)∧left=s3 s f pos∧s.length<pos+f
 here:=by
  rintro w S ⟨_,pos,f,h,_⟩ j rfl
  exact(sr.1 h).1
 kept:=by
  rintro C w w' S S' ⟨h0,pos,f,h,h2⟩ k hC
  have hlt:=(sr.1 h).1
  exact⟨by rw [k.old r hlt (hC r rfl)];exact h0,pos,f,by rw [k.heap r hlt (hC r rfl)];exact h,h2⟩
theorem IB(ht:E.P.underlying t=some .string)(hx:aL E.N G x (tD rS s))(hd:Nat.blt d E.N.n=true)(k: ∀r,RG E ops Q rest (Ea r s (Hy s)::O) ((d,tV (aN r 0))::G)):RG E ops Q (⟨some d,.range t x,ty,pos,after,none⟩::rest) O G:= .of rfl fun a w S st=>by
 have hv:a.eval x= .string ⟨s.toArray⟩:=sW.1 (hx S a st.facts)
 have hrun:(execOp a.eval ⟨some d,.range t x,ty,pos,after,none⟩).run E.P w= .ok (.value (aN w.heap.size 0)) (w.alloc (.stringIter ⟨s.toArray⟩ 0)):=by
  simp [execOp,hv,Instr.range,jr ht,aN]
 refine⟨fun c h=>(by cases h),?_⟩
 rw [hrun]
 obtain⟨he,hs',hno⟩:=fS (w:=w) (.stringIter ⟨s.toArray⟩ 0) st.sat
 exact k w.heap.size _ _ S ⟨st.ext.step0 he,hs',qD st.own he ⟨hno,0,s.length+1,wp w _,rfl,by omega⟩ (fun b hb=>by rw [show b=_ from hb];exact gB _) st.base_le,st.facts.put hd rfl⟩
theorem Kb{r:Nat}{left:List (Int×Int)}(hx:aL E.N G x (tV (aN r 0)))(hd:Nat.blt d E.N.n=true)(h0:left=[]→RG E ops Q rest (Ea r s []::O) ((d,tNx false)::G))(h1: ∀e l,left=e::l→RG E ops Q rest (Ea r s l::O) ((d,tT [tD rB true,tD (rI .i64) e.1,tD (rI .i32) e.2])::G)):
  RG E ops Q (⟨some d,.next x true,ty,pos,after,none⟩::rest) (Ea r s left::O) G:= .of rfl fun a w S st=>by
 obtain⟨⟨⟨hno,ps,f,hb,hl,hf⟩,hfp⟩,hap,hO⟩:=st.own
 have hv:a.eval x=aN r 0:=hx S a st.facts
 have hsz:(ByteArray.mk s.toArray).size=s.length:=by simp [ByteArray.size]
 have hg:(getObj r).run E.P w= .ok (.stringIter ⟨s.toArray⟩ ps) w:=by
  simp [getObj,Sem.run,hb]
 by_cases hp:ps<s.length
 ·obtain⟨f,rfl⟩: ∃f',f=f' +1:=⟨f-1,by omega⟩
  have hl2:left=((ps:Int),((sH s ps).1:Int))::s3 s f (ps+(sH s ps).2):=by rw [hl,s3,bQ hp]
  have hset:(setObj r (.stringIter ⟨s.toArray⟩ (ps+(sH s ps).2))).run E.P w= .ok () {w with heap:=w.heap.setIfInBounds r (.stringIter ⟨s.toArray⟩ (ps+(sH s ps).2))}:=by
   simp [setObj,Sem.run,hb]
  have hrun:(execOp a.eval ⟨some d,.next x true,ty,pos,after,none⟩).run E.P w= .ok (.value (.tuple #[.bool true,.int .i64 ps,.int .i32 (sH s ps).1])) {w with heap:=w.heap.setIfInBounds r (.stringIter ⟨s.toArray⟩ (ps+(sH s ps).2))}:=by
   have h3:(Instr.next (aN r 0) true ty).run E.P w= .ok (.tuple #[.bool true,.int .i64 ps,.int .i32 (sH s ps).1]) {w with heap:=w.heap.setIfInBounds r (.stringIter ⟨s.toArray⟩ (ps+(sH s ps).2))}:=by
    unfold Instr.next aN
    simp only [r0,hg,sq,hsz,hp,nt]
    rw [show Utf8.decode ⟨s.toArray⟩ ps=sH s ps from rfl]
    simp only [r0,hset,sq]
    rfl
   simp [execOp,hv,h3]
  refine⟨fun c h=>(by cases h),?_⟩
  rw [hrun]
  have hblt:=(sr.1 hb).1
  have hx' :gW (fun k=> ∃f∈[Ea r s left],f.fp k) w S {w with heap:=w.heap.setIfInBounds r (.stringIter ⟨s.toArray⟩ (ps+(sH s ps).2))} S:=
   ⟨rfl,rfl,rfl,gB _,by simp,fun k _ hk=>by
    have:r≠k:=fun e=>hk ⟨_,List.mem_singleton_self _,e.symm⟩
    simp [this],SH.le_refl _,fun _ _ _=>rfl⟩
  have hs' :jp {w with heap:=w.heap.setIfInBounds r (.stringIter ⟨s.toArray⟩ (ps+(sH s ps).2))} S:=st.sat.same fun k o hk=>by
   have:r≠k:=fun e=>by subst e;rw [hno]at hk;cases hk
   simp [this]
  have hnew:(Ea r s (s3 s f (ps+(sH s ps).2))).p {w with heap:=w.heap.setIfInBounds r (.stringIter ⟨s.toArray⟩ (ps+(sH s ps).2))} S:=
   ⟨hno,_,f,by simp [hblt],rfl,by have:=Sa s ps;omega⟩
  refine h1 _ _ hl2 _ _ S ((st.turn (O1:=[Ea r s left]) (O2:=[Ea r s (s3 s f (ps+(sH s ps).2))]) hx' hs' ⟨⟨hnew,fun k hk=> .inl (jz _)⟩,fun _ h=>(by cases h),trivial⟩ (fun k ⟨g,hg,hk⟩=>?_)).put hd ?_)
  ·have:g=Ea r s (s3 s f (ps+(sH s ps).2)):=by simpa using hg
   subst this
   exact .inl ⟨_,List.mem_singleton_self _,hk⟩
  ·exact⟨[.bool true,.int .i64 ps,.int .i32 (sH s ps).1],rfl,iv.2 rfl,fg.2 rfl,fg.2 rfl,trivial⟩
 ·have hl2:left=[]:=by
   rw [hl]
   cases f with
   |zero=>rfl
   |succ f=>rw [s3,bI hp]
  have hrun:(execOp a.eval ⟨some d,.next x true,ty,pos,after,none⟩).run E.P w= .ok (.value (.tuple #[.bool false])) w:=by
   have h3:(Instr.next (aN r 0) true ty).run E.P w= .ok (.tuple #[.bool false]) w:=by
    unfold Instr.next aN
    simp only [r0,hg,sq,hsz,hp,qa]
    rfl
   simp [execOp,hv,h3]
  refine⟨fun c h=>(by cases h),?_⟩
  rw [hrun]
  subst hl2
  exact h0 rfl _ _ S (st.put hd ⟨[],rfl⟩)
theorem xO{t:Ty}{u:List Ty}{i:Nat}(hu:u[i]? =some t)(hx:aL E.N G x (tT u)):cO E O G ⟨dst,.extract x i,ty,pos,after,g⟩ t:=C2 hu hx
theorem UN{Z:List β→Prop}{Of:List β→List OE}{Gf:mr}(h: ∀l,Z l→(∀l2,l2.length<l.length→Z l2→LG E Q c (Of l2) Gf)→LG E Q c (Of l) Gf)(l:List β)(hz:Z l):LG E Q c (Of l) Gf:=by
 have key: ∀(n:Nat) (l:List β),l.length≤n→Z l→LG E Q c (Of l) Gf:=by
  intro n
  induction n with
  |zero=>intro l hn hz;exact h l hz fun l2 h2 _=>absurd h2 (by omega)
  |succ n ih=>intro l hn hz;exact h l hz fun l2 h2 hz2=>ih l2 (by omega) hz2
 exact key l.length l (gB _) hz
end

abbrev NG:=Nat→(Option Nat×Nat)×(Nat→Option Nat×Nat)
inductive NPl where
 |o
 |i (k:Nat)
 |l (k j:Nat)
section
def UU(q:Nat→Option Nat×Nat)(zs:List (List α)):List Value:=zs.mapIdx fun j z=>aD (q j).1 (q j).2 z.length
def hd1(prj:β→List (List α))(g:NG)(x:List β):List Value:=x.mapIdx fun k y=>aD (g k).1.1 (g k).1.2 (prj y).length
def nsB(prj:β→List (List α))(l:Option Nat)(g:NG)(x:List β)(h:Option (Nat×Nat)):NPl→Option Nat
 | .o=>l
 | .i k=>(x[k]?).bind fun _=>(g k).1.1
 | .l k j=>if h=some (k,j)then none else((x[k]?).bind fun y=>(prj y)[j]?).bind fun _=>((g k).2 j).1
structure nstP(prj:β→List (List α))(r:Rp α)(T1 T2 T3:TypeId)(l:Option Nat)(cap n:Nat)(g:NG)(x:List β)(h:Option (Nat×Nat))(w:World)(S:SH):Prop where
 len:x.length=n
 out:zM false rV T1 l cap (hd1 prj g x) w S
 inn: ∀k y,x[k]? =some y→zM false rV T2 (g k).1.1 (g k).1.2 (UU (g k).2 (prj y)) w S
 lvs: ∀k y j z,x[k]? =some y→(prj y)[j]? =some z→h≠some (k,j)→zM true r T3 ((g k).2 j).1 ((g k).2 j).2 z w S
 inj: ∀s t b,nsB prj l g x h s=some b→nsB prj l g x h t=some b→s=t
variable{prj:β→List (List α)}{T1 T2 T3:TypeId}{l:Option Nat}{g:NG}{x:List β}{h:Option (Nat×Nat)}
end
section
variable{prj:β→List (List α)}{T1 T2 T3:TypeId}{l:Option Nat}{g:NG}{x:List β}{h:Option (Nat×Nat)}
variable{ty:TypeId}{gd:Option (Nat×Bool)}
open Classical in
noncomputable def XH(w:World)(S:SH)(P:Nat→Prop):SH:=fun b=>if P b then w.heap[b]? else S b
def g0(hs:List (Option Nat×Nat)):NG:=fun k=>(hs.getD k (none,0),fun _=>(none,0))
def tsB(l:Option Nat)(q:Nat→Option Nat×Nat)(zs:List (List α))(h:Option Nat):Option Nat→Option Nat
 |none=>l
 |some j=>if h=some j then none else(zs[j]?).bind fun _=>(q j).1
structure rowP(r:Rp α)(T2 T3:TypeId)(l:Option Nat)(cap n:Nat)(q:Nat→Option Nat×Nat)(zs:List (List α))(h:Option Nat)(w:World)(S:SH):Prop where
 len:zs.length=n
 inn:zM false rV T2 l cap (UU q zs) w S
 lvs: ∀j z,zs[j]? =some z→h≠some j→zM true r T3 (q j).1 (q j).2 z w S
 inj: ∀s t b,tsB l q zs h s=some b→tsB l q zs h t=some b→s=t
variable{q:Nat→Option Nat×Nat}{zs:List (List α)}{k:Option Nat}
end

def Er(es:List Bool)(done:Array Bool):List Nat:=(List.range es.length).filter fun k=>(es[k]?).getD false&&done.getD k false
def Qu(es:List Bool)(i:Nat)(s:List Nat):List Nat:=(List.range es.length).filter fun k=>Nat.beq k i||s.contains k
def UD:List Nat→List Nat→Bool
 |[],[]=>true
 |a::s,b::t=>Nat.beq a b&&UD s t
 |_,_=>false
theorem JZ: ∀{s t:List Nat},UD s t=true→s=t
 |[],[],_=>rfl
 |a::s,b::t,h=>by
  simp only [UD,iz]at h
  rw [qd h.1,JZ h.2]
 |[],_::_,h=>by cases h
 |_::_,[],h=>by cases h
def NH:List (List Nat×((Nat→OI)→List OE))→List Nat→(Nat→OI)→List OE
 |[],_,_=>[]
 |p::r,s,σ=>bif UD p.1 s then p.2 σ else NH r s σ
theorem zm{k:Nat}:k∈Er es done↔es[k]? =some true∧done.getD k false=true:=by
 unfold Er
 rw [List.mem_filter,List.mem_range,iz]
 constructor
 ·rintro⟨h1,h2,h3⟩
  refine⟨?_,h3⟩
  rw [nP h1]at h2 ⊢
  simpa using h2
 ·rintro⟨h1,h2⟩
  exact⟨(pc.1 h1).1,by rw [h1];rfl,h2⟩
theorem Nh{i:Nat}(h:es[i]? =some false):Er es (done.setIfInBounds i true)=Er es done:=by
 unfold Er
 refine List.filter_congr fun k hk=>?_
 by_cases hik:i=k
 ·subst hik;rw [h];rfl
 ·rw [uN false hik]
theorem R9{i:Nat}(h:es[i]? =some true)(hs:i<done.size):Er es (done.setIfInBounds i true)=Qu es i (Er es done):=by
 unfold Qu
 conv=>lhs;unfold Er
 refine List.filter_congr fun k hk=>?_
 by_cases hik:i=k
 ·subst hik;simp [h,hs]
 ·rw [uN false hik]
  have hb:Nat.beq k i=false:=by
   cases hb:Nat.beq k i with
   |false=>rfl
   |true=>exact absurd (qd hb).symm hik
  rw [hb,we,xu,Ha,zm,iz]
  constructor
  ·rintro⟨h1,h2⟩
   refine⟨?_,h2⟩
   cases he:es[k]? with
   |none=>rw [he]at h1;cases h1
   |some b=>rw [he]at h1;simpa using h1
  ·rintro⟨h1,h2⟩
   exact⟨by rw [h1];rfl,h2⟩
def EG:List Nat→List (List Nat)
 |[]=>[[]]
 |k::l=>(EG l).map (k:: ·)++EG l
def BL(es:List Bool):List Nat:=(List.range es.length).filter fun k=>(es[k]?).getD false
theorem wS(p:Nat→Bool): ∀l:List Nat,l.filter p∈EG l
 |[]=>AW.2 rfl
 |k::l=>by
  unfold EG
  rw [yJ]
  by_cases h:p k=true
  ·rw [List.filter_cons_of_pos h]
   exact .inl (AU.2 ⟨_,wS p l,rfl⟩)
  ·rw [List.filter_cons_of_neg h]
   exact .inr (wS p l)
theorem Pd(es:List Bool)(done:Array Bool):Er es done∈EG (BL es):=by
 have:Er es done=(BL es).filter fun k=>done.getD k false:=by
  unfold Er BL
  rw [List.filter_filter]
  refine List.filter_congr fun k _=>Bool.and_comm ..
 rw [this]
 exact wS _ _
def XT(L:List Oper)(es:List Bool)(i:Nat)(s:List Nat):Bool:=
 s.contains i||(BL es).any fun k=>if s.contains k then nW L L.length k i||(BL es).any fun j=> !s.contains j&&nW L L.length k j else nW L L.length i k
def LX(L:List Oper)(es:List Bool)(i:Nat)(aas:List (List Nat)):Bool:=(EG (BL es)).all fun s=>XT L es i s||aas.any fun a=>UD a s
def IR{α:Type}(p:α→Prop):List α→Prop
 |[]=>True
 |a::l=>p a∧IR p l
theorem IR.mem{p:α→Prop}: ∀{l:List α},IR p l→ ∀a∈l,p a
 |_::_,⟨h,_⟩,_,.head _=>h
 |_::_,⟨_,h⟩,_,.tail _ hm=>IR.mem h _ hm
abbrev UW:=List (List Nat×((Nat→OI)→List OE))
def DT(E:En)(G:mr)(L:List Oper)(ts:List TS)(Ss:UW)(es0:List Bool):Nat→List Oper→List Bool→Prop
 |_,[],_=>True
 |i,o::rest,false::es=>(∃(needs:List NS) (t:TS) (aas:List (List Nat)),ts[i]? =some t∧wb G ts needs∧(needs.all fun n=>qj L o i (n.at fun _=>wk))=true∧fq i o=true∧Ni L es0 i t=true∧LX L es0 i aas=true∧o.dst.isSome=true∧
   IR (fun s=> ∀σ,bN E (NH Ss s σ) L.toArray (vX needs σ) o (t.at σ)) aas)∧DT E G L ts Ss es0 (i+1) rest es
 |i,o::rest,true::es=>(∃(needs:List NS) (t:TS) (aas:List (List Nat×List Nat)),ts[i]? =some t∧wb G ts needs∧(needs.all fun n=>qj L o i (n.at fun _=>wk))=true∧fq i o=true∧Ni L es0 i t=true∧LX L es0 i (aas.map (·.1))=true∧(aas.all fun p=>UD (Qu es0 i p.1) p.2)=true∧
   IR (fun p:List Nat×List Nat=> ∀σ,pP E L.toArray (NH Ss p.1 σ) (vX needs σ) o (fun x=>NH Ss p.2 (Hg σ i x)) (fun x=>t.at (Hg σ i x))) aas)∧DT E G L ts Ss es0 (i+1) rest es
 |_,_::_,[]=>False
theorem DT.get{ts:List TS}{Ss:UW}{es0:List Bool}: ∀(r:List Oper) (es:List Bool) (k:Nat),DT E G L ts Ss es0 k r es→ ∀(j:Nat) (o:Oper),r[j]? =some o→
    ∃e,es[j]? =some e∧ ∃(needs:List NS) (t:TS),ts[k+j]? =some t∧wb G ts needs∧(needs.all fun n=>qj L o (k+j) (n.at fun _=>wk))=true∧fq (k+j) o=true∧Ni L es0 (k+j) t=true∧
      (match e with
       |false=>o.dst.isSome=true∧ ∃aas,LX L es0 (k+j) aas=true∧IR (fun s=> ∀σ,bN E (NH Ss s σ) L.toArray (vX needs σ) o (t.at σ)) aas
       |true=> ∃aas:List (List Nat×List Nat),LX L es0 (k+j) (aas.map (·.1))=true∧(aas.all fun p=>UD (Qu es0 (k+j) p.1) p.2)=true∧IR (fun p:List Nat×List Nat=> ∀σ,pP E L.toArray (NH Ss p.1 σ) (vX needs σ) o (fun x=>NH Ss p.2 (Hg σ (k+j) x)) (fun x=>t.at (Hg σ (k+j) x))) aas):=by
  intro r
  induction r with
  |nil=>intro es k _ j o h;simp at h
  |cons p r ih=>
    intro es k h j o ho
    cases es with
    |nil=>exact h.elim
    |cons e es=>
      cases e with
      |false=>
        obtain⟨⟨needs,t,aas,g1,g2,g3,g4,g5,g6,g7,g8⟩,h2⟩:=h
        cases j with
        |zero=>
          simp at ho;subst ho
          exact⟨false,rfl,needs,t,g1,g2,g3,g4,g5,g7,aas,g6,g8⟩
        |succ j=>
          obtain⟨e',g1,g2⟩:=ih es (k+1) h2 j o (by simpa using ho)
          refine⟨e',by simpa using g1,?_⟩
          rw [show k+1+j=k+(j+1)from by omega]at g2
          exact g2
      |true=>
        obtain⟨⟨needs,t,aas,g1,g2,g3,g4,g5,g6,g7,g8⟩,h2⟩:=h
        cases j with
        |zero=>
          simp at ho;subst ho
          exact⟨true,rfl,needs,t,g1,g2,g3,g4,g5,aas,g6,g7,g8⟩
        |succ j=>
          obtain⟨e',g1,g2⟩:=ih es (k+1) h2 j o (by simpa using ho)
          refine⟨e',by simpa using g1,?_⟩
          rw [show k+1+j=k+(j+1)from by omega]at g2
          exact g2
structure Tg(E:En)(G:mr)(l:List Oper)(ts:List TS)(Ss:UW)(es:List Bool)(done:Array Bool)(a:Act)(w:World)(S:SH)(σ:Nat→OI):Prop where
 ext:gW E.B E.w0 E.S0 w S
 sat:jp w S
 own:ee E.base E.B w S (NH Ss (Er es done) σ)
 size:a.tmps.size=E.N.n
 defers:a.defers=E.N.ds
 dsz:done.size=l.length
 down: ∀j o,l[j]? =some o→done.getD j false=true→ ∀e∈o.after,Region.binds .any e=true→done.getD e.on false=true
 old: ∀k t,look G k=some t→(∀j o,l[j]? =some o→done.getD j false=true→o.dst≠some k)→t.p S (a.tmps.getD k undef)
 new: ∀j o d p,l[j]? =some o→done.getD j false=true→o.dst=some d→ts[j]? =some p→(p.at σ).p S (a.tmps.getD d undef)
 deps: ∀j p,done.getD j false=true→ts[j]? =some p→ ∀k∈p.1,done.getD k false=true
section
variable{ts:List TS}{Ss:UW}
theorem Tg.need(h:Tg E G L ts Ss es done a w S σ){i:Nat}(hi:L[i]? =some o)(hun:done.getD i true=false)(hwait: ∀e∈o.after,Region.binds .any e=true→done.getD e.on false=true){needs:List NS}(h1:wb G ts needs)(h2:(needs.all fun n=>qj L o i (n.at fun _=>wk))=true):di E.N S a (vX needs σ):=by
 have hlt:i<done.size:=by rw [h.dsz];exact(pc.1 hi).1
 have hun' :done.getD i false=false:=by
  simp [hlt]at hun ⊢;exact hun
 refine⟨h.size,h.defers,?_⟩
 have key: ∀n∈needs,(n.ty σ).p S (a.tmps.getD n.slot undef):=by
  intro n hn
  have hs:=m3.1 h2 n hn
  have ho:=h1.mem n hn
  unfold qj NS.at at hs
  unfold SA at ho
  cases hsrc:n.src with
  |some j=>
   rw [hsrc]at hs ho
   simp only [iz]at hs
   obtain⟨hs1,hs2⟩:=hs
   cases hj:L[j]? with
   |none=>rw [hj]at hs1;cases hs1
   |some p=>
    rw [hj]at hs1
    cases hd:p.dst with
    |none=>simp only [hd]at hs1;cases hs1
    |some d=>
     simp only [hd]at hs1
     have hd' :=qd hs1
     subst hd'
     have hdone:done.getD j false=true:=by
      unfold AY at hs2
      obtain⟨e,he0,hb⟩:=Ce.1 hs2
      have he:e∈o.after:=by simpa using he0
      simp only [iz]at hb
      have:=hwait e he hb.2
      rwa [qd hb.1]at this
     have hm:=ho σ
     cases hf:ts[j]? with
     |none=>rw [hf]at hm;simp at hm
     |some f=>
      rw [hf]at hm
      have e:f.at σ=n.ty σ:=by simpa using hm
      rw [←e]
      exact h.new j p n.slot f hj hdone hd hf
  |none=>
   rw [hsrc]at hs ho
   refine h.old _ _ (ho σ) fun j p hj hdone hd=>?_
   have:=m3.1 hs p (qS hj)
   simp only [hd,Nat.beq_refl,tF,we]at this
   unfold AY at this
   obtain⟨e,he0,hb⟩:=Ce.1 this
   have he:e∈p.after:=by simpa using he0
   simp only [iz]at hb
   have h3:=h.down j p hj hdone e he hb.2
   rw [qd hb.1]at h3
   rw [h3]at hun'
   cases hun'
 clear h1 h2
 intro k t hk
 unfold vX at hk
 induction needs with
 |nil=>simp [kG,look]at hk
 |cons n needs ih=>
  simp only [xC]at hk
  unfold kG look at hk
  by_cases hb:Nat.beq n.slot k=true
  ·have hb' :Nat.beq (n.at σ).slot k=true:=hb
   rw [hb']at hk
   have:=qd hb
   subst this
   have h9:some (n.at σ).ty=some t:=by simpa using hk
   have e:n.ty σ=t:=od h9
   rw [←e]
   exact key n (oc ..)
  ·rw [yL]at hb
   have hb' :Nat.beq (n.at σ).slot k=false:=hb
   rw [hb']at hk
   exact ih (fun m hm=>key m (oS _ hm)) hk
theorem Tg.step{σ' :Nat→OI}(h:Tg E G L ts Ss es done a w S σ){i:Nat}{p0:TS}{C:Nat→Prop}(hi:L[i]? =some o)(hdN: ∀d,o.dst=some d→d<E.N.n)(hs2: ∀d,o.dst=some d→ ∀j p,L[j]? =some p→done.getD j false=true→p.dst=some d→i=j)(hwait: ∀e∈o.after,Region.binds .any e=true→done.getD e.on false=true)(ht:ts[i]? =some p0)(hun:done.getD i true=false)(hdep: ∀k∈p0.1,k=i∨done.getD k false=true)(hext:gW C w S w' S')(hC: ∀b,C b→E.base≤b∨E.B b)(hsat:jp w' S')(hown:ee E.base E.B w' S' (NH Ss (Er es (done.setIfInBounds i true)) σ'))(hσ: ∀k,k≠i→σ' k=σ k)(hv:(p0.at σ').p S' v):
  Tg E G L ts Ss es (done.setIfInBounds i true) (a.put o.dst v) w' S' σ' :=by
 have hlt:i<done.size:=by rw [h.dsz];exact(pc.1 hi).1
 have hset: ∀j,(done.setIfInBounds i true).getD j false=true→j=i∨done.getD j false=true:=fun j hj=>by
  by_cases hij:i=j
  ·exact .inl hij.symm
  ·rw [uN false hij]at hj;exact .inr hj
 have hseti:(done.setIfInBounds i true).getD i false=true:=by simp [hlt]
 have hun' :done.getD i false=false:=by simp [hlt]at hun ⊢;exact hun
 have hput: ∀k,(∀d,o.dst=some d→d≠k)→(a.put o.dst v).tmps.getD k undef=a.tmps.getD k undef:=fun k hk=>by
  cases hd:o.dst with
  |none=>rfl
  |some d=>
   have hda:d<a.tmps.size:=by rw [h.size];exact hdN d hd
   rw [rq hda,bI (hk d hd)]
 refine⟨h.ext.step hext hC,hsat,hown,?_,?_,by simp [h.dsz],fun j p hj hdone e he hb=>?_,fun k u hk hno=>?_,fun j p d' u hj hdone hd' hu=>?_,fun j u hj hu k hk=>?_⟩
 ·cases o.dst with
  |none=>exact h.size
  |some d=>simp [Act.put,h.size]
 ·cases o.dst with
  |none=>exact h.defers
  |some d=>exact h.defers
 ·rcases hset j hdone with rfl|hj'
  ·rw [hi]at hj
   have:o=p:=by simpa using hj
   subst this
   exact vc (hwait e he hb)
  ·exact vc (h.down j p hj hj' e he hb)
 ·rw [hput k fun d hd e=>hno i o hi hseti (by rw [hd,e])]
  exact u.mono hext.keep (h.old k u hk fun j p hj hdone=>hno j p hj (vc hdone))
 ·by_cases hij:j=i
  ·subst hij
   rw [hi]at hj
   have:o=p:=by simpa using hj
   subst this
   have hda:d' <a.tmps.size:=by rw [h.size];exact hdN d' hd'
   rw [hd',rq hda,bQ rfl]
   rw [ht]at hu
   have:p0=u:=by simpa using hu
   subst this
   exact hv
  ·have hj' :=(hset j hdone).resolve_left hij
   rw [hput d' fun d hd e=>by subst e;exact hij (hs2 d hd j p hj hj' hd').symm]
   have e1:u.at σ' =u.at σ:=congrArg u.2 (G9 fun k hk=>hσ k fun e=>by
     subst e
     rw [h.deps j u hj' hu k hk]at hun';cases hun')
   rw [e1]
   exact Ty.mono _ hext.keep (h.new j p d' u hj hj' hd' hu)
 ·rcases hset j hj with rfl|hj'
  ·rw [ht]at hu
   have:p0=u:=by simpa using hu
   subst this
   rcases hdep k hk with rfl|h'
   ·exact hseti
   ·exact vc h'
  ·exact vc (h.deps j u hj' hu k hk)
end
theorem Hd{l t:List Oper}{ts:List TS}{Ss:UW}(hsl:wx E.N.n [] l=true)(hlen:ts.length=l.length)(hesl:es.length=l.length)(hd:DT E G (l++t) ts Ss es 0 l es)(ht:xF (l++t) l.length t.length=true)(hQ: ∀a w S σ,St E (NH Ss (BL es) σ) (HH l (PL ts σ) G) a w S→wpListIn (fw E.r) 0 E.P (l++t).toArray Q t a w):
  ∀(fuel:Nat) (done:Array Bool) (a:Act) (w:World) (S:SH) (σ:Nat→OI),mf done=fuel→(∀j,l.length≤j→done.getD j false=false)→Tg E G (l++t) ts Ss es done a w S σ→wpAnyIn (fw E.r) 0 E.P .any (l++t).toArray Q fuel done a w:=by
 have hL1: ∀i o,i<l.length→(l++t)[i]? =some o→l[i]? =some o:=fun i o hi h=>by rwa [vh hi]at h
 have hL2: ∀i o,l[i]? =some o→(l++t)[i]? =some o:=fun i o h=>by rw [vh (pc.1 h).1];exact h
 have htail: ∀m o,l.length≤m→(l++t)[m]? =some o→vM (l++t) m=true∧fq m o=true:=fun m o hm ho=>by
  have hml:m<(l++t).length:=(pc.1 ho).1
  rw [mt]at hml
  unfold xF at ht
  have:=m3.1 ht (m-l.length) (by simp;omega)
  rw [show l.length+(m-l.length)=m from by omega,ho]at this
  simp only [iz]at this
  exact⟨this.1,this.2.1⟩
 have hget:=fun i o (hi:l[i]? =some o)=>DT.get l es 0 hd i o hi
 have hedge: ∀i o,(l++t)[i]? =some o→fq i o=true:=fun i o hi=>by
  rcases m2 i l.length with h|h
  ·obtain⟨_,_,_,_,_,_,_,h,_⟩:=hget i o (hL1 i o h hi)
   simpa using h
  ·exact(htail i o h hi).2
 obtain⟨hs1,hs2⟩:=A3 l [] hsl
 have fin: ∀fuel done a w S σ,mf done=fuel→(∀j,l.length≤j→done.getD j false=false)→Tg E G (l++t) ts Ss es done a w S σ→(∀i,i<l.length→done.getD i false=true)→wpAnyIn (fw E.r) 0 E.P .any (l++t).toArray Q fuel done a w:=by
  intro fuel done a w S σ hu hfree h hall
  have hdn:Er es done=BL es:=by
   unfold Er BL
   refine List.filter_congr fun k hk=>?_
   rw [hall k (by rw [←hesl];exact List.mem_range.1 hk),Bool.and_true]
  have hown:=h.own
  rw [hdn]at hown
  refine ya (n:=l.length) (fun m o hm ho=>(htail m o hm ho).1) hedge t l.length done fuel a w (gB _) (by simp) h.dsz (fun j hj=>⟨fun hjd=>?_,fun hlt=>hall j hlt⟩) hu
   (hQ a w S σ ⟨h.ext,h.sat,hown,h.size,h.defers,fun j u hj=>?_⟩)
  ·rcases m2 j l.length with h' |h'
   ·exact h'
   ·rw [hfree j h']at hjd;cases hjd
  ·rcases E2 l (PL ts σ) j u (by unfold PL;rw [Ex];exact hlen) hj with⟨i,o,h1,h2,h3⟩|⟨h1,h2⟩
   ·unfold PL at h3
    rw [Ez]at h3
    cases hf:ts[i]? with
    |none=>rw [hf]at h3;simp at h3
    |some f=>
     rw [hf]at h3
     have e:f.at σ=u:=by simpa using h3
     rw [←e]
     exact h.new i o j f (hL2 i o h1) (hall i (pc.1 h1).1) h2 hf
   ·refine h.old j u h1 fun i o ho hdn=>?_
    rcases m2 i l.length with h' |h'
    ·exact h2 o (qS (hL1 i o h' ho))
    ·rw [hfree i h']at hdn;cases hdn
 have lower: ∀done a w S σ i,(∀j,l.length≤j→done.getD j false=false)→Tg E G (l++t) ts Ss es done a w S σ→i∈Region.ready .any (l++t).toArray done→l.length≤i→ ∀j,j<l.length→done.getD j false=true:=by
  intro done a w S σ i hfree h hi hge j hj
  obtain⟨hun,p,hp,hwait⟩:=sV.1 hi
  have hp' :(l++t)[i]? =some p:=by simpa using hp
  have hcov:=(htail i p hge hp').1
  unfold vM at hcov
  have hre:=m3.1 hcov j (by simp;omega)
  exact gH h.down _ i j (fun q hq e he hb=>by
   have:q=p:=by rw [hp']at hq;simpa using hq.symm
   subst this
   exact hwait e he hb) hre
 intro fuel
 induction fuel with
 |zero=>
  intro done a w S σ hu hfree h
  exact fin 0 done a w S σ hu hfree h fun i hi=>tN hu (by rw [h.dsz,mt];omega)
 |succ fuel ih=>
  intro done a w S σ hu hfree h
  by_cases hall: ∀i,i<l.length→done.getD i false=true
  ·exact fin _ done a w S σ hu hfree h hall
  have hready0: ∀m i,i<m→i<l.length→Region.ready .any (l++t).toArray done=[]→done.getD i false=true:=by
   intro m
   induction m with
   |zero=>intro i h;omega
   |succ m ihm=>
    intro i him hil hr
    have his:i<done.size:=by rw [h.dsz,mt];omega
    by_cases hdn:done.getD i true=true
    ·rw [←o3 his];exact hdn
    ·exfalso
     obtain⟨o,ho⟩: ∃o,(l++t)[i]? =some o:=⟨l[i],hL2 i _ (nP hil)⟩
     have hmem:i∈Region.ready .any (l++t).toArray done:=by
      rw [sV]
      refine⟨by simpa using hdn,o,by simpa using ho,fun e he hb=>?_⟩
      have:=hedge i o ho
      unfold fq at this
      have:=m3.1 this e (by simpa using he)
      simp only [hb,tF,we,uJ]at this
      exact ihm e.on (by omega) (by omega) hr
     rw [hr]at hmem;cases hmem
  refine⟨fun hr=>absurd (fun i hi=>hready0 (i+1) i (by omega) hi hr) hall,fun i hi=>?_⟩
  have hil:i<l.length:=by
   rcases m2 i l.length with h' |h'
   ·exact h'
   ·exact absurd (lower done a w S σ i hfree h hi h') hall
  obtain⟨hun,o,ho,hwait⟩:=sV.1 hi
  have ho' :(l++t)[i]? =some o:=by simpa using ho
  have hol:=hL1 i o hil ho'
  obtain⟨e,he,needs,u,h1,h2,h3,_,h4,h5⟩:=hget i o hol
  rw [pj]at h1 h3 h4
  have hF:=h.need ho' hun hwait h2 h3
  have his:i<done.size:=by rw [h.dsz,mt];omega
  have hun' :done.getD i false=false:=by rw [←o3 his];exact hun
  have hu' :mf (done.setIfInBounds i true)=fuel:=by have:=qW hun;omega
  have huq: ∀d,o.dst=some d→ ∀j p,(l++t)[j]? =some p→done.getD j false=true→p.dst=some d→i=j:=fun d hdd j p hj hjd hpd=>by
   rcases m2 j l.length with h' |h'
   ·exact hs2 i j o p d hol (hL1 j p h' hj) hdd hpd
   ·rw [hfree j h']at hjd;cases hjd
  have hfree' : ∀j,l.length≤j→(done.setIfInBounds i true).getD j false=false:=fun j hj=>by
   rw [uN false (by omega)];exact hfree j hj
  have hbl:E.base≤w.heap.size:=h.ext.size
  have hwaits: ∀q,(l++t)[i]? =some q→ ∀e∈q.after,Region.binds .any e=true→done.getD e.on false=true:=fun q hq e he hb=>by
   have:q=o:=by rw [ho']at hq;simpa using hq.symm
   subst this
   exact hwait e he hb
  have hdpp: ∀k∈u.1,k=i∨done.getD k false=true:=fun k hk=>by
   have:=m3.1 h4 k hk
   simp only [iz,z7]at this
   rcases this.2 with hb|hb
   ·exact .inl (qd hb)
   ·exact .inr (gH h.down _ i k hwaits hb)
  have hdNN: ∀d,o.dst=some d→d<E.N.n:=fun d hd=>(hs1 o (qS hol) d hd).1
  unfold wpOpIn
  rw [ho]
  show if _ then _ else _
  -- just these effects stand
  have hpos:XT (l++t) es i (Er es done)=false:=by
   rw [Ci]
   intro hno
   unfold XT at hno
   rw [z7]at hno
   rcases hno with hc|hc
   ·have:=(zm.1 (Ha.1 hc)).2
    rw [this]at hun';cases hun'
   ·obtain⟨k,hk1,hk2⟩:=Ce.1 hc
    have hke:es[k]? =some true:=by
     unfold BL at hk1
     rw [List.mem_filter,List.mem_range]at hk1
     have h7:=hk1.2
     rw [nP hk1.1]at h7 ⊢
     simpa using h7
    by_cases hin:(Er es done).contains k=true
    ·rw [bQ hin,z7]at hk2
     have hkd:=(zm.1 (Ha.1 hin)).2
     rcases hk2 with hb|hb
     ·have:=gH h.down _ k i (fun q hq e he hb=>h.down k q hq hkd e he hb) hb
      rw [this]at hun';cases hun'
     ·obtain⟨j,hj1,hj2⟩:=Ce.1 hb
      rw [iz,xX]at hj2
      have hje:es[j]? =some true:=by
       unfold BL at hj1
       rw [List.mem_filter,List.mem_range]at hj1
       have h7:=hj1.2
       rw [nP hj1.1]at h7 ⊢
       simpa using h7
      have hjd:=gH h.down _ k j (fun q hq e he hb=>h.down k q hq hkd e he hb) hj2.2
      have:=Ha.2 (zm.2 ⟨hje,hjd⟩)
      rw [hj2.1]at this;cases this
    ·rw [bI hin]at hk2
     have hkd:=gH h.down _ i k hwaits hk2
     exact hin (Ha.2 (zm.2 ⟨hke,hkd⟩))
  have hwin: ∀aas:List (List Nat),LX (l++t) es i aas=true→Er es done∈aas:=by
   intro aas hw
   unfold LX at hw
   have:=m3.1 hw _ (Pd es done)
   rw [hpos,we]at this
   obtain⟨b,hb1,hb2⟩:=Ce.1 this
   rw [←JZ hb2];exact hb1
  cases e with
  |false=>
   simp only at h5
   obtain⟨hdS,aas,hw,h5⟩:=h5
   rw [pj]at hw
   obtain⟨d,hdd⟩:=Option.isSome_iff_exists.1 hdS
   have h6:=h5.mem _ (hwin aas hw) σ a w S h.sat h.own hF
   have hdq:=Nh (done:=done) he
   by_cases hw:Region.wanted o (yielded (l++t).toArray a.tmps)=true
   ·rw [bQ hw]at h6 ⊢
    refine lR (fun a' w' ⟨v,S',ha,hx,hs,hv⟩=>?_) h6
    subst ha
    exact ih _ _ _ S' _ hu' hfree' (h.step ho' hdNN huq hwait h1 hun hdpp hx (fun _ hb=>hb.elim) hs (by rw [hdq];exact h.own.ext0 hx) (fun _ _=>rfl) hv)
   ·rw [bI hw]at h6 ⊢
    exact⟨fun _ _=>trivial,ih _ _ _ S _ hu' hfree' (h.step ho' hdNN huq hwait h1 hun hdpp (hY qP _ _) (fun _ hb=>hb.elim) h.sat (by rw [hdq];exact h.own) (fun _ _=>rfl) h6)⟩
  |true=>
   simp only [pj]at h5
   obtain⟨aas,hw,hins,h5⟩:=h5
   obtain⟨p,hp1,hp2⟩:=AU.1 (hwin _ hw)
   have hp3:=JZ (m3.1 hins p hp1)
   have h6:=h5.mem p hp1 σ a w S h.sat (by rw [hp2];exact h.own) hF hbl
   have hdq:Er es (done.setIfInBounds i true)=p.2:=by rw [R9 he his,←hp2,hp3]
   by_cases hw:Region.wanted o (yielded (l++t).toArray a.tmps)=true
   ·rw [bQ hw]at h6 ⊢
    refine lR (fun a' w' ⟨v,S',x,ha,hx,hs,hown,hv⟩=>?_) h6
    subst ha
    exact ih _ _ _ S' _ hu' hfree' (h.step ho' hdNN huq hwait h1 hun hdpp hx (fun b ⟨f,hf,hb⟩=>(ee.mem h.own f (by rw [←hp2];exact hf)).2 b hb) hs (by rw [hdq];exact hown) (fun k hk=>Cq σ x hk) hv)
   ·rw [bI hw]at h6 ⊢
    obtain⟨x,hown,hv⟩:=h6
    exact⟨fun _ _=>trivial,ih _ _ _ S _ hu' hfree' (h.step ho' hdNN huq hwait h1 hun hdpp (hY qP _ _) (fun _ hb=>hb.elim) h.sat (by rw [hdq];exact hown) (fun k hk=>Cq σ x hk) hv)⟩
theorem DX{id:Nat}(m:Nat)(ts:List TS)(es:List Bool)(Ss:UW)(hO: ∀σ,NH Ss [] σ=O)(hm:E.P.follows .mixedOrders=true)(hsl:wx E.N.n [] (L.take m)=true)(hlen:ts.length=(L.take m).length)(hesl:es.length=(L.take m).length)(ht:xF L (L.take m).length (L.drop m).length=true)(hd:DT E G L ts Ss es 0 (L.take m) es)(k: ∀σ:Nat→OI,RG E L.toArray Q (L.drop m) (NH Ss (BL es) σ) (HH (L.take m) (PL ts σ) G)):CG E Q (.region id L.toArray true) O G:=fun a w S st=>by
 have hL:L=L.take m++L.drop m:=(sS m L).symm
 generalize L.take m=l at hL hsl hlen hesl ht hd k
 generalize L.drop m=t at hL ht k
 subst hL
 refine wpIn_region_any hm ?_
 obtain⟨he,hs⟩:=xa (w:=w) st.sat
 have hdn0:Er es (Array.replicate (l++t).toArray.size false)=[]:=by
  unfold Er
  refine List.filter_eq_nil_iff.2 fun k hk=>?_
  simp [xY]
  intro _
  split<;>simp
 refine Hd hsl hlen hesl hd ht (fun a w S σ st=>k σ a w S st) _ _ _ _ S (fun _=>wk) ?_ (fun j _=>?_)
  ⟨st.ext.step0 he,hs,by rw [hdn0,hO];exact st.own.ext0 he,st.facts.size,st.facts.defers,by simp,fun j o hj hdone=>?_,fun k t hk _=>st.facts.at_ k t hk,fun j o d t hj hdone=>?_,fun j p hdone=>?_⟩
 ·unfold mf;rw [Kp,Km];simp
 ·simp [xY];split<;>rfl
 ·simp [xY]at hdone
  split at hdone<;>simp at hdone
 ·simp [xY]at hdone
  split at hdone<;>simp at hdone
 ·simp [xY]at hdone
  split at hdone<;>simp at hdone

theorem ee.perm(h:O.Perm O'):ee base B w S O→ee base B w S O' :=by
 induction h with
 |nil=>exact id
 |cons x p ih=>
  rintro⟨h1,h2,h3⟩
  exact⟨h1,fun f hf=>h2 f (p.mem_iff.2 hf),ih h3⟩
 |swap x y l=>
  rintro⟨h1,h2,h3,h4,h5⟩
  refine⟨h3,fun f hf k hk hfk=>?_,h1,fun f hf=>h2 f (oS _ hf),h5⟩
  rcases kp.1 hf with rfl|hf
  ·exact h2 x (oc ..) k hfk hk
  ·exact h4 f hf k hk hfk
 |trans _ _ ih1 ih2=>exact fun k=>ih2 (ih1 k)
def t8(O:List OE):List Nat→List OE
 |[]=>[]
 |i::l=>match O[i]? with
  |some e=>e::t8 O l
  |none=>t8 O l
theorem zg(O:List OE): ∀a b:List Nat,t8 O (a++b)=t8 O a++t8 O b
 |[],_=>rfl
 |i::a,b=>by
  simp only [yM,t8]
  split<;>simp [zg O a b]
theorem Js{a b:List Nat}(h:a.Perm b):(t8 O a).Perm (t8 O b):=by
 induction h with
 |nil=>exact .nil
 |cons x p ih=>
  simp only [t8]
  split
  ·exact .cons _ ih
  ·exact ih
 |swap x y l=>
  simp only [t8]
  cases hx:O[x]? <;>cases hy:O[y]? <;>simp<;>exact .swap ..
 |trans _ _ ih1 ih2=>exact ih1.trans ih2
theorem HE(O:List OE):t8 O (List.range O.length)=O:=by
 have key: ∀n,n≤O.length→t8 O (List.range n)=O.take n:=by
  intro n
  induction n with
  |zero=>intro _;rfl
  |succ n ih=>
   intro h
   rw [List.range_succ,zg,ih (by omega)]
   simp only [t8]
   rw [nP (by omega),NJ (by omega)]
 rw [key _ (gB _),Cd]
theorem ee.pick(l:List Nat)(hl:l.isPerm (List.range O.length)=true)(h:ee base B w S O):ee base B w S (t8 O l):=
 h.perm (by
  have:=Js (O:=O) (List.isPerm_iff.1 hl)
  rw [HE]at this
  exact this.symm)

section
section
variable{ty:TypeId}
end
theorem sD{ty:TypeId}{l:Option Nat}{o:Nat}(hm:md mm r U l cap xs∈O)(hy:dC xs j=some y)(hp:aL E.N G p (tV (kz l o))):
  cO E O G ⟨dst,.nilCheck p,ty,pos,after,g⟩ (tV (kz l o)):=
 .of_pure fun a w S _ ho hF=>by
  have h1:a.eval p=kz l o:=hp S a hF
  obtain⟨_,hy'⟩:=lw hy
  obtain⟨b,cur,rfl,_⟩:=qA (ho.mem _ hm).1 hy'
  exact⟨kz (some b) o,by simp [execOp,h1,kz,aN],rfl⟩
end
open Go.ChangeShapes Go.WideShapes Go.ChangeAt

variable{W:World}
section
variable{H:Type}{enc:TypeId×Value→H}
def Em(W:World):SH:=fun b=>W.heap[b]?
theorem Tz(W:World)(hg: ∀p∈glob,∃c T fr,W.heap[p.1]? =some (.cells c T fr)∧c.toList.take p.2.length=p.2)(ht: ∀w' :World,(∀(b:Nat) (o:Obj),W.heap[b]? =some o→ ∃o',w'.heap[b]? =some o' ∧DY o o')→Ma w'):jp W (Em W):=⟨fun _ o h=>⟨o,h,tf o⟩,hg,ht⟩
def wa(enc:TypeId×Value→H)(P:Program)(W:World){α:Type}(t:TypeId)(r:Rp α):Prop:=
 P.cellsOf t=r.sz∧ ∀fuel cs x,DataW.trod enc P W 0 (fun _=>true) true fuel t cs=some x→ ∃y,r.rc (Em W) cs y
theorem NU(h:P.underlying t=some .bool)(hc:P.cellsOf t=1):wa enc P W t rB:=⟨hc,fun fuel cs x hx=>by
 cases fuel with
 |zero=>simp [DataW.trod]at hx
 |succ n=>
  unfold DataW.trod at hx
  rw [h]at hx
  split at hx
  all_goals try (injections;done)
  ·exact⟨_,rfl⟩⟩
theorem u0{α β:Type}{f:α→Option β}: ∀{l:List α} {r:List β},l.mapM f=some r→r.length=l.length∧ ∀(i:Nat) (x:α),l[i]? =some x→ ∃y,r[i]? =some y∧f x=some y
 |[],r,h=>by
  simp at h
  subst h
  exact⟨rfl,fun i x hx=>by simp at hx⟩
 |a::l,r,h=>by
  rw [List.mapM_cons]at h
  cases hf:f a with
  |none=>rw [hf]at h;simp at h
  |some b=>
   rw [hf]at h
   cases hm:l.mapM f with
   |none=>rw [hm]at h;simp at h
   |some r' =>
    rw [hm]at h
    simp at h
    subst h
    obtain⟨h1,h2⟩:=u0 hm
    refine⟨by simp [h1],fun i x hx=>?_⟩
    cases i with
    |zero=>simp at hx;subst hx;exact⟨b,rfl,hf⟩
    |succ i=>exact h2 i x (by simpa using hx)
theorem AG{a:Addr}(h:W.cell? a=some v):a.spot=none∧ ∃c E fr,W.heap[a.block]? =some (.cells c E fr)∧c[a.off]? =some v:=by
 unfold World.cell? at h
 cases ho:W.heap[a.block]? with
 |none=>rw [ho]at h;cases h
 |some o=>
  rw [ho]at h
  cases o with
  |cells c E fr=>
   simp only at h
   by_cases hs:a.spot.isSome=true
   ·rw [bQ hs]at h;cases h
   ·rw [bI hs]at h
    exact⟨by cases hq:a.spot with
     |none=>rfl
     |some s=>rw [hq]at hs;simp at hs,c,E,fr,rfl,h⟩
  |_=>simp at h
theorem Fs(a:Addr):a.add 0=a:=by unfold Addr.add;rfl
theorem J7(h:W.cells? 0 ⟨b,off,none⟩ n=some cs)(hn:0<n): ∃c E fr,W.heap[b]? =some (.cells c E fr)∧cs=(c.toList.drop off).take n:=by
 unfold World.cells? at h
 rw [bQ (jz _)]at h
 obtain⟨h1,h2⟩:=u0 h
 obtain⟨v,_,hv⟩:=h2 0 0 (by simp [hn])
 obtain⟨_,c,E,fr,h3,h4⟩:=AG hv
 refine⟨c,E,fr,by simpa [Addr.add] using h3,?_⟩
 apply G8
 intro i
 have hl:cs.length=n:=by simpa using h1
 by_cases hi:i<n
 ·obtain⟨v,h5,h6⟩:=h2 i i (by simp [hi])
  obtain⟨_,c',E',fr',h7,h8⟩:=AG h6
  rw [iV]at h7 h8
  have h7' :W.heap[b]? =some (.cells c' E' fr'):=h7
  have h3' :W.heap[b]? =some (.cells c E fr):=by simpa [Addr.add] using h3
  rw [h3']at h7'
  injection h7' with h7'
  injection h7' with e1
  subst e1
  rw [h5,Ac hi,wh]
  simpa using h8.symm
 ·rw [Ck (by omega),Ck (by simp;omega)]
theorem L7{q:Rp α}{len:Nat}{a:Addr}{x:DataW H×List MemPlace}(h0' :0<q.sz)(hq:wa enc P W e q)(hx:(let elemAt (i:Nat):Option (DataW H×List MemPlace):=(W.cells? 0 (a.add (i*P.cellsOf e)) (P.cellsOf e)).bind (DataW.trod enc P W 0 (fun _=>true) true n e)
   if 0≤a.block∧len≤cap∧cap≤maxLen then
    ((List.range len).mapM elemAt).bind fun elems=>
     (if(fun _=>true) a.block then(List.range (cap-len)).mapM fun j=>elemAt (len+j)else some []).map fun rest=>
      (DataW.slice (elems.map (·.1)) (rest.map (·.1)),MemPlace.row a ((elems.length+rest.length)*P.cellsOf e)++(elems++rest).flatMap (·.2))
   else none)=some x): ∃y,(eX q).rc (Em W) [.slice (some a) len cap] y:=by
 simp only at hx
 split at hx
 ·rename_i hcond
  obtain⟨_,hle,hmax⟩:=hcond
  cases hm:(List.range len).mapM (fun i=>(W.cells? 0 (a.add (i*P.cellsOf e)) (P.cellsOf e)).bind (DataW.trod enc P W 0 (fun _=>true) true n e))with
  |none=>rw [hm]at hx;simp at hx
  |some elems=>
   obtain⟨hm1,hm2⟩:=u0 hm
   rw [hq.1]at hm2
   by_cases hl0:len=0
   ·subst hl0;exact⟨[],some a,cap,rfl,jz _,hmax,.inl rfl⟩
   have hsp0:a.spot=none:=by
    obtain⟨z,_,hz⟩:=hm2 0 0 (by rw [List.getElem?_range (by omega)])
    rw [Nat.zero_mul,Fs]at hz
    cases hcs:W.cells? 0 a q.sz with
    |none=>rw [hcs]at hz;simp at hz
    |some cs1=>
     unfold World.cells? at hcs
     rw [bQ (jz _)]at hcs
     obtain⟨_,g2⟩:=u0 hcs
     obtain⟨v,_,hv⟩:=g2 0 0 (by simp [h0'])
     rw [Fs]at hv
     exact(AG hv).1
   have hcell: ∀i,i<len→ ∃c E fr,a.spot=none∧W.heap[a.block]? =some (.cells c E fr)∧ ∃y,q.rc (Em W) ((c.toList.drop (a.off+i*q.sz)).take q.sz) y:=by
    intro i hi
    obtain⟨z,_,hz⟩:=hm2 i i (by simp [hi])
    cases hcs:W.cells? 0 (a.add (i*q.sz)) q.sz with
    |none=>rw [hcs]at hz;simp at hz
    |some cs1=>
     rw [hcs]at hz
     have hsp:a.spot=none:=hsp0
     obtain⟨ab,ao,az⟩:=a
     simp only at hsp
     subst hsp
     rw [iV]at hcs
     obtain⟨c,E,fr,g1,g2⟩:=J7 hcs h0'
     obtain⟨y,hy⟩:=hq.2 n cs1 z hz
     exact⟨c,E,fr,rfl,g1,y,by rw [←g2];exact hy⟩
   obtain⟨c,E,fr,hsp,hb,_⟩:=hcell 0 (by omega)
   have key: ∀m,m≤len→ ∃ys:List α,ys.length=m∧si q (Em W) ((c.toList.drop a.off).take (m*q.sz)) ys:=by
    intro m
    induction m with
    |zero=>intro _;exact⟨[],rfl,by simp [si]⟩
    |succ m ih=>
     intro hm'
     obtain⟨ys,hy1,hy2⟩:=ih (by omega)
     obtain⟨c',E',fr',_,hb',y,hy⟩:=hcell m (by omega)
     rw [hb]at hb'
     injection hb' with hb'
     injection hb' with e1
     subst e1
     refine⟨ys++[y],by simp [hy1],?_⟩
     have hsplit:(c.toList.drop a.off).take ((m+1)*q.sz)=(c.toList.drop a.off).take (m*q.sz)++(c.toList.drop (a.off+m*q.sz)).take q.sz:=by
      rw [wd,Nat.one_mul,List.take_add,vd]
     rw [hsplit]
     exact s9 hy2 (Jq.2 hy)
   obtain⟨ys,hy1,hy2⟩:=key len (gB _)
   obtain⟨ab,ao,az⟩:=a
   simp only at hsp
   subst hsp
   exact⟨ys,some ⟨ab,ao,none⟩,cap,by rw [hy1],by omega,hmax,.inr ⟨ab,ao,c,E,fr,rfl,hb,by rw [hy1];exact hy2⟩⟩
 ·cases hx
theorem oV{q:Rp α}(h:P.underlying t=some (.slice e))(hc:P.cellsOf t=1)(h0:Nat.blt 0 q.sz=true)(hq:wa enc P W e q):wa enc P W t (eX q):=⟨hc,fun fuel cs x hx=>by
 have h0' :0<q.sz:=by simpa [uJ] using h0
 cases fuel with
 |zero=>simp [DataW.trod]at hx
 |succ n=>
  unfold DataW.trod at hx
  rw [h]at hx
  split at hx
  all_goals try (injections;done)
  ·exact⟨[],none,0,rfl,gB _,jz _,.inl rfl⟩
  ·rename_i e' a len cap heq
   injection heq with e1
   injection e1 with e1
   subst e1
   exact L7 h0' hq hx⟩
def SE(enc:TypeId×Value→H)(P:Program)(W:World){α:Type}(off:Nat)(l:List (TypeId×Nat))(r:Rp α):Prop:=
 ∀(fuel:Nat) (cs:List Value),cs.length=off+r.sz→(∀f∈l,∃x,DataW.trod enc P W 0 (fun _=>true) true fuel f.1 ((cs.drop f.2).take (P.cellsOf f.1))=some x)→ ∃y,r.rc (Em W) (cs.drop off) y
theorem oM{t:Nat}(h:wa enc P W t r):SE enc P W off [(t,off)] r:=fun fuel cs hl hx=>by
 obtain⟨x,hx⟩:=hx _ (List.mem_singleton_self _)
 simp only at hx
 rw [h.1,vg (by simp;omega)]at hx
 exact h.2 _ _ _ hx
theorem eI{p:Rp α}{t off' :Nat}{l:List (TypeId×Nat)}(h:wa enc P W t p)(ho:off' =off+p.sz)(hr:SE enc P W off' l q):SE enc P W off ((t,off)::l) (co p q):=fun fuel cs hl hx=>by
 subst ho
 obtain⟨x,hx1⟩:=hx _ (oc ..)
 simp only at hx1
 rw [h.1]at hx1
 obtain⟨y,hy⟩:=h.2 _ _ _ hx1
 obtain⟨z,hz⟩:=hr fuel cs (by rw [hl];show off+(p.sz+q.sz)=_;omega) fun f hf=>hx f (oS _ hf)
 exact⟨(y,z),_,_,by rw [←vd];exact(sS _ _).symm,hy,hz⟩
theorem kZ{l:List (TypeId×Nat)}{p:Rp α}{f:β→α}(ht:(P.underlying t).map (fun d=>match d with| .struct l=>(true,l.toList.map fun f=>(f.type,f.offset))|_=>(false,[]))=some (true,l))(hc:P.cellsOf t=p.sz)(hf: ∀y,∃x,f x=y)(hl:SE enc P W 0 l p):wa enc P W t (lI p f):=⟨hc,fun fuel cs x hx=>by
 obtain⟨fs,h1,h2⟩: ∃fs,P.underlying t=some (.struct fs)∧fs.toList.map (fun f=>(f.type,f.offset))=l:=by
  cases hu:P.underlying t with
  |none=>rw [hu]at ht;cases ht
  |some d=>
   rw [hu]at ht
   cases d<;>simp at ht
   exact⟨_,rfl,ht⟩
 cases fuel with
 |zero=>simp [DataW.trod]at hx
 |succ n=>
  unfold DataW.trod at hx
  rw [h1]at hx
  change (if cs.length=P.cellsOf t then(fs.toList.mapM fun f=>DataW.trod enc P W 0 (fun _=>true) true n f.type ((cs.drop f.offset).take (P.cellsOf f.type))).map (fun xs=>(DataW.agg (xs.map (·.1)),xs.flatMap (·.2)))else none)=some x at hx
  split at hx
  ·rename_i hlen
   cases hm:fs.toList.mapM (fun f=>DataW.trod enc P W 0 (fun _=>true) true n f.type ((cs.drop f.offset).take (P.cellsOf f.type)))with
   |none=>rw [hm]at hx;simp at hx
   |some r=>
    obtain⟨_,hm2⟩:=u0 hm
    obtain⟨y,hy⟩:=hl n cs (by rw [hlen,hc];omega) (fun g hg=>by
     rw [←h2,AU]at hg
     obtain⟨f0,hf0,rfl⟩:=hg
     obtain⟨i,hi⟩:=AX hf0
     obtain⟨z,_,hz⟩:=hm2 i f0 hi
     exact⟨z,hz⟩)
    obtain⟨x',hx'⟩:=hf y
    refine⟨x',?_⟩
    show p.rc _ cs (f x')
    rw [hx']
    simpa using hy
  ·cases hx⟩
theorem Hz(h:wa enc P W t r)(hag:r.agg=false){d:DataW H}{ps:List MemPlace}(hv:DataW.Trod enc P W 0 (fun _=>true) true t v d ps)(hc:v.cells= #[v]): ∃y,(tD r y).p (Em W) v:=by
 obtain⟨fuel,hx⟩:=hv
 rw [hc]at hx
 obtain⟨y,hy⟩:=h.2 _ _ _ hx
 exact⟨y,_,by unfold Rp.val;rw [hag];rfl,hy⟩

theorem Iq(ht:P.underlying t=some (.slice e))(hv:Value.okWide P W .any base t v):v.cells= #[v]:=by
 cases v<;>first|rfl|(simp [Value.okWide,ht,Cell.okWide,Cell.ok]at hv)
theorem GL{W' :World}(h:gW qP W S W' S'):Below W.heap.size W W' :=⟨h.os,h.tape,h.output,h.size,fun k hk=>h.heap k hk (fun h=>h)⟩
theorem xD(hl:laidOutB P=true){W W' :World}(hb:Below W.heap.size W W'){sp:Nat→Bool}: ∀{ts:List TypeId} {vs:List Value} {ds:List (DataW H)} {ps:List MemPlace},(∀t∈ts,P.readableRec t=true∧t<P.types.size)→
  DataW.TrodAll enc P W 0 (fun _=>true) true ts vs ds ps→(∀p∈ps,p.block<W.heap.size)→(∀p∈ps,sp p.block=true)→DataW.TrodAll enc P W' 0 sp true ts vs ds ps
 |[],[],[],_,_,h,_,_=>h
 |t::ts,v::vs,d::ds,_,hr,⟨p,q,h1,h2,e⟩,hlt,hsp=>by
  subst e
  have ht:=hr t (oc ..)
  exact⟨p,q,WideElems.Trod_stays hl ht.1 ht.2 h1 (fun x hx=>hb.same (hlt x (EA _ hx))) (fun x hx=>hsp x (EA _ hx)),
   xD hl hb (fun t ht=>hr t (oS _ ht)) h2 (fun x hx=>hlt x (List.mem_append_right _ hx)) (fun x hx=>hsp x (List.mem_append_right _ hx)),rfl⟩
theorem Ox{f:Func}{s:ChangeSpec}{apart fresh handsOn again:Bool}{W' :World}{args:Array Value}{ds gs:List (DataW H)}{before:List MemPlace}{tb:TypeId}(hl:laidOutB P=true)(hr: ∀t∈f.params.toList,P.readableRec t=true∧t<P.types.size)(hvs:s.vars=[])(hres:f.resultTypes= #[tb])(htb:P.underlying tb=some .bool)(hW:DataW.Whole enc P f.params.toList s.vars apart W args.toList ds gs before)(hs:s.fn H (ds++gs)={results:=[.lit (.bool true)],args:=ds})(hb:Below W.heap.size W W'):
  s.post enc P f apart fresh handsOn again W args (.bool true) W' :=by
 have hW0:=hW
 have hlt:=hW.lt
 obtain⟨pa,pv,hA,hV,rfl,hz,hn⟩:=hW
 rw [hvs]at hV
 have hpv:pv=[]:=by
  cases gs with
  |nil=>exact hV
  |cons g gs=>exact hV.elim
 subst hpv
 have hlt' : ∀p∈pa,p.block<W.heap.size:=fun p hp=>hlt p (by simpa using hp)
 have hargs: ∀sp:Nat→Bool,(∀p∈pa,sp p.block=true)→DataW.TrodAll enc P W' 0 sp true f.params.toList args.toList ds pa:=fun sp hsp=>xD hl hb hr hA hlt' hsp
 have hresT: ∀(b:Nat) (sp:Nat→Bool) (hd:Bool),DataW.TrodAll enc P W' b sp hd f.resultTypes.toList ((Value.bool true).resultList f.resultTypes.size) [.lit (.bool true)] []:=fun b sp hd=>by
  rw [hres]
  exact⟨[],[],⟨1,by simp [DataW.trod,htb,Value.cells]⟩,rfl,rfl⟩
 have hvT: ∀sp:Nat→Bool,DataW.TrodVars enc P W' sp s.vars (s.fn H (ds++gs)).vars []:=fun sp=>by
  rw [hvs,hs];rfl
 have hargs' : ∀sp:Nat→Bool,(∀p∈pa,sp p.block=true)→DataW.TrodAll enc P W' 0 sp true f.params.toList args.toList (s.fn H (ds++gs)).args pa:=fun sp hsp=>by rw [hs];exact hargs sp hsp
 have hres' : ∀(b:Nat) (sp:Nat→Bool) (hd:Bool),DataW.TrodAll enc P W' b sp hd f.resultTypes.toList ((Value.bool true).resultList f.resultTypes.size) (s.fn H (ds++gs)).results []:=fun b sp hd=>by rw [hs];exact hresT b sp hd
 have hold: ∀p∈pa,(fun b=>decide (b<W.heap.size)) p.block=true:=fun p hp=>by simpa using hlt' p hp
 refine⟨ds,gs,pa++[],[],pa,[],hW0,hres' _ _ _,hargs' _ hold,hvT _,World.keptBut_mono (fun p hp=>⟨hp,?_⟩) (hb.frame _),fun _=>?_⟩
 ·right;simpa using hp
 ·refine⟨?_,_,_,([]++pa)++[],⟨[]++pa,[],trodAll_append (hargs' _ (fun _ _=>rfl)) (hres' _ _ _),hvT _,rfl,?_,?_⟩,?_⟩
  ·intro j t r h1 h2
   rw [hres]at h1 h2
   cases j with
   |zero=>
    simp [Value.resultList]at h1 h2
    subst h1 h2
    simp [Value.okWide,htb,Cell.okWide,Cell.ok]
   |succ j=>simp at h1
  ·intro b off hp
   have hp' :MemPlace.cell b off∈pa:=by simpa using hp
   have:=hlt' _ hp'
   rw [hb.frozen (p:=⟨b,off,none⟩) this]
   exact hz b off (by simpa using hp')
  ·intro ha
   have:=hn ha
   simpa using this
  ·intro p hp _
   simpa using hp
end
end Go.Proofs.YtmogpgcfognefaaGreatDoor

