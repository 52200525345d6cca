/- di of this claim: W12, W13, W14, W16, W17, W18, W19, W20, W22, W23, W24, W25, W26, W28. -/
import Derived.Test.YtmogpgcfognefaaGreatDoorNdV1
import Derived.RangeFuncRecord
import Derived.RangeFuncLeaves
import Derived.Laws.StructEq
import Derived.Lib.ConvBytes
import Derived.Lib.AppendZeros
import Derived.Laws.MakeOwn
import Derived.MapKept
set_option linter.all false
namespace Go.Proofs.YtmogpgcfognefaaGreatDoor
open Go

variable{B:Nat→Prop}{O:List OE}{S S' :SH}{b base:Nat}{e:TypeId}{f:FuncId}{k:IntKind}{w w' :World}
theorem qD(h:ee base B w S O)(k:gW qP w S w' S'){e:OE}(he:e.p w' S')(hn: ∀b,e.fp b→w.heap.size≤b)(hb:base≤w.heap.size:=by first|assumption|exact St.base_le (by assumption)):ee base B w' S' (e::O):=
 ⟨⟨he,fun b hb' => .inl (nu hb (hn b hb'))⟩,fun f hf b hb' hfb=>by
  have:=f.here (ee.mem h f hf).1 b hfb
  have:=hn b hb'
  omega,h.ext0 k⟩
def gk(P:Program)(f:FuncId)(ts:List Ty)(mm:Bool){α:Type}(r:Rp α)(T:TypeId)(xs:List α):Prop:=
 ∀w S vs,jp w S→vO S ts vs→Calls P f vs.toArray w fun e w' => ∃l cap S',e= .returned (aD l cap xs.length)∧gW qP w S w' S' ∧jp w' S' ∧(md mm r T l cap xs).holds w.heap.size qP w' S'
variable{T:TypeId}{α:Type}{cap:Nat}{l:Option Nat}{mm:Bool}{r:Rp α}{xs:List α}
theorem Jj(h:(md mm r T l cap xs).holds w.heap.size qP w' S')(he:gW qP w S w' S')(hs:jp w' S'):
  ∃S'',gW qP w S w' S'' ∧jp w' S'' ∧(tD (eX r) xs).p S'' (aD l cap xs.length):=by
 have st:St ⟨default,⟨0,[]⟩,qP,w,S,none⟩ [md mm r T l cap xs] [] ⟨#[],[]⟩ w' S' :=⟨he,hs,⟨h,fun _ hf=>(by cases hf),trivial⟩,⟨rfl,rfl,fun _ _ h=>(by simp [look]at h)⟩⟩
 obtain⟨S'',h1,h2⟩:=st.settle
 exact⟨S'',h1.ext,h1.sat,h2⟩
variable{P:Program}{ts:List Ty}
theorem gk.spec(h:gk P f ts mm r T xs):bh P f ts (tD (eX r) xs):=fun w S vs hs hv=>
 (h w S vs hs hv).mono fun e w' ⟨l,cap,S',he,h1,h2,h3⟩=>by
  obtain⟨S'',h4,h5,h6⟩:=Jj h3 h1 h2
  exact⟨_,S'',he,h4,h5,h6⟩
def V7(E:En)(mm:Bool){α:Type}(r:Rp α)(T:TypeId)(xs:List α):Ending→World→Prop:=fun e w' => ∃l cap S',e= .returned (aD l cap xs.length)∧gW E.B E.w0 E.S0 w' S' ∧jp w' S' ∧(md mm r T l cap xs).holds E.w0.heap.size E.B w' S'
variable{N:Nat}{S0:SH}{c:Code}{fn:Func}{n:Nat}{w0:World}
theorem gk.of(hf:P.funcs[f]? =some fn)(hb:fn.body=some c)(hN:fn.ntmps=N)(hn:Nat.ble ts.length N=true)(h: ∀w0 S0,CG ⟨P,⟨N,[]⟩,qP,w0,S0,none⟩ (bodyPost P fn (V7 ⟨P,⟨N,[]⟩,qP,w0,S0,none⟩ mm r T xs)) c [] (vY 0 ts)):gk P f ts mm r T xs:=by
 subst hN
 intro w S vs hs hv
 exact nq.1 (callsIn_of_wp (F:=fw none) (n:=0) hf hb trivial (h w S _ w S ⟨hY _ _ _,hs,trivial,ri hv _ (qc hn)⟩))
variable{E:En}{G:mr}{Q:Exit→Act→World→Prop}{a:Act}{after:Array Edge}{agg:Bool}{ats:Array TypeId}{bytes d off:Nat}{ops:Array Oper}{pos:String}{rest:List Oper}{sz:Nat}{t:TypeId}{x:Operand}{ys:List α}{z:List Value}
section
theorem iu{k:Nat}(hr:fn.results= #[.tmp k])(hk:look G k=some (tV (aD l cap n)))(hn:n=xs.length:=by rfl):
  AT ⟨P,⟨N,[]⟩,B,w0,S0,none⟩ (bodyPost P fn (V7 ⟨P,⟨N,[]⟩,B,w0,S0,none⟩ mm r T xs)) .ret (md mm r T l cap xs::O) G:=fun a w S st=>by
 subst hn
 have hv:a.tmps.getD k undef=aD l cap xs.length:=st.facts.at_ k _ hk
 exact⟨st.facts.defers,_,pt P fn k hr _ _,l,cap,S,by rw [hv],st.ext,st.sat,st.own.1⟩
section
variable{ty:TypeId}
theorem Np{xs:List Operand}{u:Nat→Option Nat→Ty}(hc:au E.P f=true)(hs:gk E.P f ts mm r T ys)(hx:lB E.N G xs ts)(hd:Nat.blt d E.N.n=true)(hu: ∀l cap w0 S,(md mm r T l cap ys).p w0 S→(u cap l).p S (aD l cap ys.length))(k: ∀l cap,RG E ops Q rest (md mm r T l cap ys::O) ((d,u cap l)::G)):
  RG E ops Q (⟨some d,.call ⟨.value (.func f),xs.toArray,ats⟩,ty,pos,after,none⟩::rest) O G:= .of rfl fun a w S st=>by
 have hr:(execOp a.eval ⟨some d,.call ⟨.value (.func f),xs.toArray,ats⟩,ty,pos,after,none⟩).run E.P w= .ok (.enter f (xs.map a.eval).toArray) w:=by
  simp [execOp,resolve,Act.eval,Deferred.ofValue,invoke,f7 hc]
 refine⟨fun c h=>(by cases h),?_⟩
 rw [hr]
 refine(hs w S _ st.sat (hx.tys st.facts)).mono fun e w' ⟨l,cap,S',he,h1,h2,h3⟩=>⟨_,he,?_⟩;refine k l cap _ _ S' ⟨st.ext.step0 h1,h2,qD st.own h1 h3.1 (fun b hb=>(h3.2 b hb).resolve_right id) st.base_le,(st.facts.mono h1.keep).put hd (hu l cap w' S' h3.1)⟩
theorem kC{xs:List Operand}(hc:au E.P f=true)(hs:gk E.P f ts false r T ys)(hx:lB E.N G xs ts)(hd:Nat.blt d E.N.n=true)(k: ∀l cap,RG E ops Q rest (cY r T l cap ys::O) ((d,tV (aD l cap ys.length))::G)):
  RG E ops Q (⟨some d,.call ⟨.value (.func f),xs.toArray,ats⟩,ty,pos,after,none⟩::rest) O G:=Np (u:=fun cap l=>tV (aD l cap ys.length)) hc hs hx hd (fun _ _ _ _ _=>rfl) k
theorem gy{xs:List Operand}{parts:List (Nat×Operand)}(ht:E.P.underlying t=some (.slice T))(ti:TI E.P T sz bytes agg z)(hsz:r.sz=sz)(h0:Nat.blt 0 sz=true)(hp:parts=xS 0 xs)(hn:n=ys.length)(hb:Nat.ble (n*sz) 16777216=true)(hx:lB E.N G xs (ys.map (tD r)))(hd:Nat.blt d E.N.n=true)(k: ∀l cap,RG E ops Q rest (cY r T l cap ys::O) ((d,tV (aD l cap ys.length))::G)):
  RG E ops Q (⟨some d,.buildSlice t n parts.toArray,ty,pos,after,none⟩::rest) O G:= .of rfl fun a w S st=>by
 obtain⟨cs,hc,hr⟩:=wz ht ti hsz hn hb (hx.tys st.facts) w
 subst hsz
 subst hp
 have hb' :=qc hb
 have h0' :0<r.sz:=by simpa [uJ] using h0
 have hnle:n≤n*r.sz:=Nat.le_mul_of_pos_right n h0'
 have hcl:=lW hc
 obtain⟨he,hs',hno⟩:=fS (w:=w) (.cells cs.toArray T (0,0)) st.sat
 have hrun:(execOp a.eval ⟨some d,.buildSlice t n (xS 0 xs).toArray,ty,pos,after,none⟩).run E.P w= .ok (.value (.slice (some ⟨w.heap.size,0,none⟩) n n)) (w.alloc (.cells cs.toArray T (0,0))):=by
  simp only [execOp,r0,hr,sq,AS]
 refine⟨fun c h=>(by cases h),?_⟩
 rw [hrun]
 refine k (some w.heap.size) n _ _ S ⟨st.ext.step0 he,hs',qD st.own he ⟨cs,⟨cs.toArray,wp w _,by omega,by simp only [maxLen];omega,by simp [hcl,hn],by simp [←hcl]⟩,hc,fun b hb=>by rw [←od hb];exact hno⟩ (fun b hb=>yQ (od hb)) st.base_le,st.facts.put hd ?_⟩
 ·show _=aD _ _ _
  rw [←hn];rfl
theorem IE{yt:TypeId}(ht:E.P.underlying t=some (.slice e))(hx:aL E.N G x (tD (eX r) xs))(hd:Nat.blt d E.N.n=true)(k: ∀b,(b=true→xs=[])→RG E ops Q rest O ((d,tD rB b)::G)):RG E ops Q (⟨some d,.binOp .eql t x (.const (.slice none 0 0)) yt,ty,pos,after,none⟩::rest) O G:= .of rfl fun a w S st=>by
 obtain⟨ad,cap,h1,_,_,h2⟩:=lS.1 (hx S a st.facts)
 have hrun:(execOp a.eval ⟨some d,.binOp .eql t x (.const (.slice none 0 0)) yt,ty,pos,after,none⟩).run E.P w= .ok (.value (.bool ad.isNone)) w:=by
  have h3:(Op.equal t (.slice ad xs.length cap) (.slice none 0 0)).run E.P w= .ok ad.isNone w:=y5 fun d=>by
   cases ad<;>simp [Op.equalIn,jr ht]
  have hcn:a.eval (.const (.slice none 0 0))= .slice none 0 0:=rfl
  simp [execOp,h1,hcn,eqGuard,binOp,h3]
 refine⟨fun c h=>(by cases h),?_⟩
 rw [hrun]
 refine k ad.isNone (fun e=>?_) _ _ S (st.step (hY _ _ _) st.sat hd (iv.2 rfl))
 rcases h2 with h2|⟨b,off,c,T,fr,e1,_⟩
 ·exact h2
 ·subst e1;cases e
end
end

def aN(b off:Nat):Value:= .pointer (some ⟨b,off,none⟩)
def bx{α:Type}(r:Rp α)(T:TypeId)(b:Nat)(x:α):OE where
 fp:=fun k=>k=b
 p:=fun w S=>S b=none∧ ∃c,w.heap[b]? =some (.cells c T (0,0))∧r.rc S c.toList x
 here:=by
  intro w S h k hk
  subst hk
  obtain⟨h1,c,h2,_⟩:=h
  exact(sr.1 h2).1
 kept:=by
  intro C w w' S S' h k hC
  obtain⟨h1,c,h2,h3⟩:=h
  have hlt:=(sr.1 h2).1
  exact⟨by rw [k.old b hlt (hC b rfl)];exact h1,c,by rw [k.heap b hlt (hC b rfl)];exact h2,r.mono k.keep h3⟩
def rV:Rp Value where
 sz:=1
 agg:=false
 rc:=fun _ cs v=>cs=[v]∧v.oneCell' =true
 mono:=fun _ h=>h
 len:=fun h=>by rw [h.1];rfl
 one:=fun h c hc=>by rw [h.1]at hc;simp at hc;subst hc;exact h.2
 sc:=fun _=>rfl
theorem yX{u:Value}{v:Value}:(tD rV u).p S v↔v=u∧u.oneCell' =true:=by
 constructor
 ·rintro⟨cs,rfl,h1,h2⟩;subst h1;exact⟨rfl,h2⟩
 ·rintro⟨rfl,h⟩;exact⟨[v],rfl,rfl,h⟩
def gP{α β:Type}(r:Rp α)(off:Nat)(q:Rp β)(set:α→β→α):Prop:= ∀S cs x ds y,r.rc S cs x→q.rc S ds y→r.rc S (cs.take off++ds++cs.drop (off+q.sz)) (set x y)
variable{U:TypeId}{dst:Option Tmp}{g:Option (Nat×Bool)}{β:Type}{get:α→β}{i:Nat}{o:Oper}{q:Rp β}{y:α}
section
variable{e:Exit}
theorem St.settleB{k:Nat}{x:α}(h:St E (bx r T b x::O) G a w S)(hk:look G k=some (tV (aN b 0))): ∃S',St E O ((k,bF r x)::G) a w S' :=by
 obtain⟨⟨hn,cur,h3,h4⟩,_⟩:=h.own.1
 obtain⟨h8,hle,_,_⟩:=yj h rfl h3 (tf _) hn
 have hv:a.tmps.getD k undef=aN b 0:=h.facts.at_ k _ hk
 refine⟨_,h8.cons ⟨b,0,cur,T,(0,0),hv,by simp [SH.set],?_⟩⟩
 have hl:cur.size=r.sz:=by have:=r.len h4;simpa using this
 have:=r.mono hle h4
 rw [sa,vg (by simp [hl])];exact this
theorem aW{x:α}(k:Nat)(hk:look G k=some (tV (aN b 0)))(h:RG E ops Q rest O ((k,bF r x)::G)):RG E ops Q rest (bx r T b x::O) G:=
 fun a w _ st=>let⟨S',st'⟩:=st.settleB hk;h a w S' st'
theorem eP{x:α}(k:Nat)(hk:look G k=some (tV (aN b 0)))(h:AT E Q e O ((k,bF r x)::G)):AT E Q e (bx r T b x::O) G:=
 fun a w _ st=>let⟨S',st'⟩:=st.settleB hk;h a w S' st'
section
variable{ty:TypeId}
theorem aZ{x:α}(ti:TI E.P T sz bytes agg z)(hx: ∀S,r.rc S z x)(hd:Nat.blt d E.N.n=true)(k: ∀b,RG E ops Q rest (bx r T b x::O) ((d,tV (aN b 0))::G)):RG E ops Q (⟨some d,.alloc T,ty,pos,after,none⟩::rest) O G:= .of rfl fun a w S st=>by
 obtain⟨zv,hzr,hzc⟩:=ti.zero w
 obtain⟨he,hs',hno⟩:=fS (w:=w) (.cells z.toArray T (0,0)) st.sat
 have hrun:(execOp a.eval ⟨some d,.alloc T,ty,pos,after,none⟩).run E.P w= .ok (.value (aN w.heap.size 0)) (w.alloc (.cells z.toArray T (0,0))):=by
  simp [execOp,Instr.alloc,hzr,newVar,newRow,hzc,aN]
 refine⟨fun c h=>(by cases h),?_⟩
 rw [hrun]
 exact k w.heap.size _ _ S ⟨st.ext.step0 he,hs',qD st.own he ⟨hno,z.toArray,wp w _,by simpa using hx S⟩ (fun b hb=>yQ hb.symm) st.base_le,st.facts.put hd rfl⟩
theorem vQ{v:α}(hx:aL E.N G x (tD r v))(hd:Nat.blt d E.N.n=true)(k: ∀b,RG E ops Q rest (bx r T b v::O) ((d,tV (aN b 0))::G)):RG E ops Q (⟨some d,.box T x,ty,pos,after,none⟩::rest) O G:= .of rfl fun a w S st=>by
 obtain⟨cs,hv,hc⟩:=hx S a st.facts
 obtain⟨he,hs',hno⟩:=fS (w:=w) (.cells cs.toArray T (0,0)) st.sat
 have hrun:(execOp a.eval ⟨some d,.box T x,ty,pos,after,none⟩).run E.P w= .ok (.value (aN w.heap.size 0)) (w.alloc (.cells cs.toArray T (0,0))):=by
  simp [execOp,Instr.box,newVar,newRow,hv,uR hc,aN]
 refine⟨fun c h=>(by cases h),?_⟩
 rw [hrun]
 exact k w.heap.size _ _ S ⟨st.ext.step0 he,hs',qD st.own he ⟨hno,cs.toArray,wp w _,by simpa using hc⟩ (fun b hb=>yQ hb.symm) st.base_le,st.facts.put hd rfl⟩
theorem nI(hs:jp w S)(f f' :OE)(h:ee base B w S (f::O))(hf: ∀k,f.fp k↔k=b)(hf' : ∀k,f'.fp k↔k=b)(hg:w'.os=w.os∧w'.tape=w.tape∧w'.output=w.output∧w'.heap.size=w.heap.size∧w.drawn≤w'.drawn)(ho: ∀k,k≠b→w'.heap[k]? =w.heap[k]?)(hp:f'.p w' S)(hno:S b=none):gW (fun k=>k=b) w S w' S∧jp w' S∧ee base B w' S (f' ::O):=by
 have hext:gW (fun k=>k=b) w S w' S:=⟨hg.1,hg.2.1,hg.2.2.1,hg.2.2.2.2,by omega,fun k _ hk=>ho k hk,SH.le_refl _,fun _ _ _=>rfl⟩
 refine⟨hext,hs.same fun k o hk=>?_,⟨hp,fun k hk=>h.1.2 k ((hf k).2 ((hf' k).1 hk))⟩,fun g hgm k hk=>h.2.1 g hgm k ((hf k).2 ((hf' k).1 hk)),h.2.2.ext hext fun g hgm k hk hkb=>h.2.1 g hgm k ((hf k).2 hkb) hk⟩
 have hne:k≠b:=fun e=>by subst e;rw [hno]at hk;cases hk
 exact ho k hne
theorem ke{q:Rp α}(ti:TI P U sz bytes agg z)(hsz:q.sz=sz){ds:List Value}(hy:q.rc S ds y){cur:Array Value}(hg:w.heap[b]? =some (.cells cur T (0,0)))(hfit:off+q.sz≤cur.size):
  ∃w',(storeVar U ⟨b,off,none⟩ (q.val ds)).run P w= .ok () w' ∧w'.os=w.os∧w'.tape=w.tape∧w'.output=w.output∧(w'.heap.size=w.heap.size∧w.drawn≤w'.drawn)∧w'.heap[b]? =some (.cells (cur.toList.take off++ds++cur.toList.drop (off+q.sz)).toArray T (0,0))∧ ∀k,k≠b→w'.heap[k]? =w.heap[k]? :=by
 have hl:=q.len hy
 have hst:=run_storeCells_at P b off T ds 0 cur w hg (by omega) (q.one hy)
 simp only [yP]at hst
 refine⟨w.setRow b (cur.toList.take off++ds++cur.toList.drop (off+ds.length)).toArray,?_,rfl,rfl,rfl,⟨?_,gB _⟩,?_,fun k hk=>setRow_other w b k _ hk⟩
 ·generalize (cur.toList.take off++ds++cur.toList.drop (off+ds.length)).toArray=X at hst ⊢
  simp only [storeVar,r0,ti.sizeOf,sq,uR hy,Cj,hl,hsz]
  simp only [ne_eq,not_true_eq_false,qa]
  simpa using hst
 ·simp [World.setRow]
 ·rw [setRow_heap w b cur _ T _ hg,←hl]
theorem aE{set:α→β→α}{x:α}{y:β}{p v:Operand}(ti:TI E.P U sz bytes agg z)(hsz:q.sz=sz)(hset:gP r off q set)(hoff:Nat.ble (off+q.sz) r.sz=true)(hp:aL E.N G p (tV (aN b off)))(hv:aL E.N G v (tD q y))(k:RG E ops Q rest (bx r T b (set x y)::O) G):RG E ops Q (⟨none,.store U p v,ty,pos,after,none⟩::rest) (bx r T b x::O) G:= .of rfl fun a w S st=>by
 have h1:a.eval p=aN b off:=hp S a st.facts
 obtain⟨ds,h2,h3⟩:=hv S a st.facts
 obtain⟨⟨hno,cur,h5,h6⟩,_⟩:=st.own.1
 have hl:=r.len h6
 have hoff' :=qc hoff
 obtain⟨w',hr,e1,e2,e3,e4,e5,e6⟩:=ke ti hsz h3 h5 (off:=off) (by simp at hl;omega)
 have hrun:(execOp a.eval ⟨none,.store U p v,ty,pos,after,none⟩).run E.P w= .ok .skip w' :=by
  simp [execOp,h1,h2,Instr.storeAt,aN,Instr.sureAddr,hr]
 refine⟨fun c h=>(by cases h),?_⟩
 rw [hrun]
 obtain⟨g1,g2,g3⟩:=nI (O:=O) st.sat (bx r T b x) (bx r T b (set x y)) st.own (fun _=>sU) (fun _=>sU) ⟨e1,e2,e3,e4.1,e4.2⟩ e6 ⟨hno,_,e5,by simpa using hset S _ _ _ _ h6 h3⟩ hno
 exact k _ _ S ⟨st.ext.step g1 (fun c hc=>st.own.1.2 c hc),g2,g3,st.facts⟩
theorem ay:gP r 0 r (fun _ y=>y):=fun S cs x ds y h1 h2=>by
 have hl:=r.len h1
 simpa [←hl] using h2
end
section
variable{ty:TypeId}
theorem Ek{o:Nat}{p:Operand}(hf:cG E.P T i=some (off,sz))(h0:Nat.beq sz 0=false)(hp:aL E.N G p (tV (aN b o))):cO E O G ⟨dst,.fieldAddr T p i,ty,pos,after,g⟩ (tV (aN b (o+off))):=
 .of_pure fun a w S _ _ hF=>by
  have h1:a.eval p=aN b o:=hp S a hF
  obtain⟨fs,f,e1,e2,e3,e4⟩:=Am hf
  have h0' :sz≠0:=fun e=>by subst e;simp at h0
  refine⟨aN b (o+off),?_,rfl⟩
  simp [execOp,h1,aN,Instr.fieldAt,jr e1,e2,Instr.sureAddr,fieldPlace,e4,h0',e3,iV]
theorem bl{x:α}{p:Operand}(ti:TI E.P U sz bytes agg z)(hsz:q.sz=sz)(hag:q.agg=agg)(hget:lQ r off q get)(hm:bx r T b x∈O)(hp:aL E.N G p (tV (aN b off))):
  cO E O G ⟨dst,.load U p,ty,pos,after,g⟩ (tD q (get x)):=
 .of_pure fun a w S _ ho hf=>by
  have h1:a.eval p=aN b off:=hp S a hf
  obtain⟨⟨_,cur,h5,h6⟩,_⟩:=ho.mem _ hm
  have h7:=hget S _ _ h6
  refine⟨_,?_,_,rfl,h7⟩
  simp [execOp,h1,aN,Instr.loadAt,Instr.sureAddr,mC ti h5 hsz hag h7]
theorem bO:lQ r 0 r (fun x=>x):=fun S cs x h=>by
 have hl:=r.len h
 simpa [←hl] using h
end
end

theorem dU{p:Rp α}:gP (co p q) 0 p (fun x y=>(y,x.2)):=fun S cs x ds y h k=>by
 obtain⟨a,b,e,h1,h2⟩:=h
 have hl:=p.len h1
 refine⟨ds,b,?_,k,h2⟩
 rw [e,←hl];simp
variable{γ:Type}{s:Rp γ}
theorem bB{p:Rp α}{off' :Nat}{u:β→γ→β}(h:gP q off s u)(ho:off' =p.sz+off):gP (co p q) off' s (fun x y=>(x.1,u x.2 y)):=fun S cs x ds y hx hy=>by
 obtain⟨a,b,e,h1,h2⟩:=hx
 have hl:=p.len h1
 refine⟨a,b.take off++ds++b.drop (off+s.sz),?_,h1,h S b x.2 ds y h2 hy⟩
 rw [e,ho,←hl,List.take_length_add_append,show a.length+off+s.sz=a.length+(off+s.sz)from by omega,List.drop_length_add_append]
 simp
theorem cN{p:Rp α}{q:Rp γ}{u:α→γ→α}{f:β→α}{set:β→γ→β}(h:gP p off q u)(hf: ∀x y,f (set x y)=u (f x) y):gP (lI p f) off q set:=fun S cs x ds y hx hy=>by
 show p.rc S _ (f (set x y))
 rw [hf]
 exact h S cs (f x) ds y hx hy
def lz(P:Program)(T:TypeId):Option (List (Nat×Nat)):=
 match P.underlying T with
 |some (.struct fs)=>fs.toList.mapM fun f=>(P.info? f.type).map fun q=>(f.offset,q.size)
 |_=>none
theorem CE{P:Program}: ∀(fs:List Field) (ps:List (Nat×Nat)) (w:World),fs.mapM (fun f=>(P.info? f.type).map fun q=>(f.offset,q.size))=some ps→
  (fs.mapM (fun f=>do pure (f.offset,←sizeOf f.type):Field→Sem (Nat×Nat))).run P w= .ok ps w
 |[],ps,w,h=>by
  simp at h;subst h
  simp
 |f::fs,ps,w,h=>by
  simp only [List.mapM_cons]at h ⊢
  cases hq:P.info? f.type with
  |none=>simp [hq]at h
  |some q=>
   cases hr:fs.mapM (fun f=>(P.info? f.type).map fun q=>(f.offset,q.size))with
   |none=>simp [hq,hr]at h
   |some qs=>
    simp [hq,hr]at h
    subst h
    have ih:=CE fs qs w hr
    simp [sizeOf,typeInfo,hq]at ih ⊢
    simp [ih]
section
variable{ty:TypeId}
def BP(E:En)(G:mr){α:Type}(r:Rp α)(ps:List (Nat×Nat)):α→List (Nat×Operand)→α→Prop
 |x,[],y=>x=y
 |x,(i,o)::rest,y=> ∃(β:Type) (q:Rp β) (set:α→β→α) (off:Nat) (v:β),ps[i]? =some (off,q.sz)∧gP r off q set∧Nat.ble (off+q.sz) r.sz=true∧aL E.N G o (tD q v)∧BP E G r ps (set x v) rest y
theorem Dh{α:Type}{r:Rp α}{ps:List (Nat×Nat)}{S:SH}{a:Act}(hF:di E.N S a G): ∀(parts:List (Nat×Operand)) (x y:α) (cs:List Value),BP E G r ps x parts y→r.rc S cs x→
  ∃ds,r.rc S ds y∧Instr.fill (ps.toArray[·]?) cs.toArray (parts.map fun p=>(p.1,a.eval p.2))=some ds.toArray
 |[],x,y,cs,h,hx=>by
  have e:x=y:=h
  subst e
  exact⟨cs,hx,rfl⟩
 |(i,o)::rest,x,y,cs,⟨β,q,set,off,v,h1,h2,h3,h4,h5⟩,hx=>by
  obtain⟨c,hv,hc⟩:=h4 S a hF
  have hl:=q.len hc
  have hlr:=r.len hx
  have h3' :=qc h3
  have hcells:(a.eval o).cells=c.toArray:=by rw [hv];exact uR hc
  obtain⟨ds,h6,h7⟩:=Dh hF rest _ y _ h5 (h2 S cs x c v hx hc)
  refine⟨ds,h6,?_⟩
  have hps:ps.toArray[i]? =some (off,q.sz):=by simpa using h1
  have hs:(a.eval o).cells.size=q.sz:=by rw [hcells];simpa using hl
  have h8:=y0 (a.eval o) off (cs.take off) ((cs.drop off).take q.sz) (cs.drop (off+q.sz)) (by rw [hs];simp;omega) (by simp;omega)
  have e1:cs.take off++(cs.drop off).take q.sz++cs.drop (off+q.sz)=cs:=by
   rw [mV,←vd,sS,sS]
  rw [e1]at h8
  simp only [xC,Instr.fill,hps]
  rw [bI (by simp [hs,hlr];omega),h8,hcells]
  simpa using h7
theorem cI{x:α}{parts:List (Nat×Operand)}{ps:List (Nat×Nat)}(ti:TI E.P T sz bytes agg z)(hp:lz E.P T=some ps)(hz: ∀S,r.rc S z x)(hb:BP E G r ps x parts y)(ha:r.agg=true:=by rfl):
  cO E O G ⟨dst,.build T parts.toArray,ty,pos,after,g⟩ (tD r y):=
 .of_pure fun a w S _ _ hF=>by
  obtain⟨zv,hzr,hzc⟩:=ti.zero w
  obtain⟨ds,h1,h2⟩:=Dh hF parts x y z hb (hz S)
  unfold lz at hp
  split at hp
  ·rename_i fs hu
   have hpl:=CE fs.toList ps w hp
   have hpl2:(fs.mapM (fun f=>do pure (f.offset,←sizeOf f.type):Field→Sem (Nat×Nat))).run E.P w= .ok ps.toArray w:=by
    have hfs:fs=fs.toList.toArray:=by simp
    generalize fs.toList=l at hfs hpl
    subst hfs
    rw [List.mapM_toArray,Sem.run_map,hpl]
    rfl
   refine⟨.agg ds.toArray,?_,ds,(ss ha ds).symm,h1⟩
   simp only [execOp,Instr.build,r0,hzr,sq,jr hu,hpl2,hzc]
   have hm:(parts.toArray.map fun(i,x)=>(i,a.eval x)).toList=parts.map fun p=>(p.1,a.eval p.2):=by simp
   rw [hm,h2]
   simp
  ·cases hp
end
section
theorem gz{k:Nat}{x:α}(hr:fn.results= #[.cell k T])(ti:TI P T sz bytes agg z)(hsz:r.sz=sz)(hag:r.agg=agg)(hk:look G k=some (bF r x)):
  AT ⟨P,⟨N,[]⟩,B,w0,S0,none⟩ (bodyPost P fn (GG ⟨P,⟨N,[]⟩,B,w0,S0,none⟩ (tD r x))) .ret O G:=fun a w S st=>by
 obtain⟨b,off,c,U,fr,h1,h2,h3⟩:=st.facts.at_ k _ hk
 obtain⟨c',h4,h5⟩:=st.sat.part h2 (r.len h3)
 rw [←h5]at h3
 refine⟨st.facts.defers,r.val ((c'.toList.drop off).take r.sz),?_,_,S,rfl,st.ext,st.sat,_,rfl,h3⟩
 have hl:=mC ti h4 hsz hag h3
 have h1' :a.tmps[k]?.getD undef=Value.pointer (some ⟨b,off,none⟩):=by simpa [G7] using h1
 simp [results,hr,h1',asAddr,hl]
end

def nW(L:List Oper):Nat→Nat→Nat→Bool
 |0,_,_=>false
 |n+1,i,j=>match L[i]? with
  |some o=>o.after.toList.any fun e=>Region.binds .any e&&(Nat.beq e.on j||nW L n e.on j)
  |none=>false
def vM(L:List Oper)(m:Nat):Bool:=(List.range m).all fun j=>nW L L.length m j
def xF(L:List Oper)(n k:Nat):Bool:=(List.range k).all fun m=>vM L (n+m)&&(match L[n+m]? with|some o=>fq (n+m) o&&o.guard.isNone|none=>false)
variable{L:List Oper}{done:Array Bool}{hi j:Int}
theorem gH{L:List Oper}{done:Array Bool}(down: ∀j o,L[j]? =some o→done.getD j false=true→ ∀e∈o.after,Region.binds .any e=true→done.getD e.on false=true):
  ∀(n i j:Nat),(∀o,L[i]? =some o→ ∀e∈o.after,Region.binds .any e=true→done.getD e.on false=true)→nW L n i j=true→done.getD j false=true
 |0,_,_,_,h=>by cases h
 |n+1,i,j,hi,h=>by
  unfold nW at h
  cases ho:L[i]? with
  |none=>rw [ho]at h;cases h
  |some o=>
   rw [ho]at h
   obtain⟨e,he0,hb⟩:=Ce.1 h
   have he:e∈o.after:=by simpa using he0
   rw [iz,z7]at hb
   have hd:=hi o ho e he hb.1
   rcases hb.2 with h1|h1
   ·rw [←qd h1];exact hd
   ·exact gH down n e.on j (fun p hp=>down e.on p hp hd) h1
theorem DJ.stepT{l:List Oper}(h:DJ E O G l ts done a w S){t:Ty}{v:Value}(hi:l[i]? =some o)(hd:o.dst=some d)(hdN:d<E.N.n)(hs2: ∀j p,l[j]? =some p→done.getD j false=true→p.dst=some d→i=j)(hwait: ∀e∈o.after,Region.binds .any e=true→done.getD e.on false=true)(ht:ts[i]? =some t)(hun:done.getD i true=false)(hext:gW qP w S w' S')(hsat:jp w' S')(hv:t.p S' v):DJ E O G l ts (done.setIfInBounds i true) (a.put o.dst v) w' S' :=by
 have hda:d<a.tmps.size:=by rw [h.size];exact hdN
 have hlt:i<done.size:=by rw [h.dsz];exact(pc.1 hi).1
 have hset: ∀j,(done.setIfInBounds i true).getD j false=true→j=i∨done.getD j false=true:=fun j hj=>by
  by_cases hij:i=j
  ·exact .inl hij.symm
  ·rw [uN false hij]at hj;exact .inr hj
 have hseti:(done.setIfInBounds i true).getD i false=true:=by simp [hlt]
 have hun' :done.getD i false=false:=by simp [hlt]at hun ⊢;exact hun
 refine⟨h.ext.step0 hext,hsat,h.own.ext0 hext,?_,?_,by simp [h.dsz],fun j p hj hdone e he hb=>?_,fun k u hk hno=>?_,fun j p d' u hj hdone hd' hu=>?_⟩
 ·rw [hd];simp [Act.put,h.size]
 ·rw [hd];exact h.defers
 ·rcases hset j hdone with rfl|hj'
  ·rw [hi]at hj
   have:o=p:=by simpa using hj
   subst this
   exact vc (hwait e he hb)
  ·exact vc (h.down j p hj hj' e he hb)
 ·have hne:d≠k:=fun e=>hno i o hi hseti (by rw [hd,e])
  rw [hd,rq hda,bI hne]
  exact u.mono hext.keep (h.old k u hk fun j p hj hdone=>hno j p hj (vc hdone))
 ·rw [hd,rq hda]
  rcases hset j hdone with rfl|hj'
  ·rw [hi]at hj
   have:o=p:=by simpa using hj
   subst this
   rw [hd]at hd'
   have:d=d' :=by simpa using hd'
   subst this
   rw [bQ rfl]
   rw [ht]at hu
   have:t=u:=by simpa using hu
   subst this
   exact hv
  ·have hne:d≠d' :=fun e=>by
    subst e
    have:=hs2 j p hj hj' hd'
    subst this
    rw [hj']at hun';cases hun'
   rw [bI hne]
   exact u.mono hext.keep (h.new j p d' u hj hj' hd' hu)
theorem o3(h:i<done.size):done.getD i true=done.getD i false:=by simp [h]
theorem tN(h:mf done=0)(hi:i<done.size):done.getD i false=true:=by
 unfold mf at h
 rw [List.countP_eq_zero]at h
 have h2:done[i]∈done.toList:=by simp
 have:=h _ h2
 rw [←o3 hi]
 simpa [hi] using this
theorem ya{r:Option Nat}(hc: ∀m o,n≤m→L[m]? =some o→vM L m=true)(hedge: ∀m o,L[m]? =some o→fq m o=true):
  ∀(rest:List Oper) (m:Nat) (done:Array Bool) (fuel:Nat) (a:Act) (w:World),n≤m→L.drop m=rest→done.size=L.length→(∀j,j<L.length→(done.getD j false=true↔j<m))→mf done=fuel→
   wpListIn (fw r) 0 P L.toArray Q rest a w→wpAnyIn (fw r) 0 P .any L.toArray Q fuel done a w:=by
 intro rest
 induction rest with
 |nil=>
  intro m done fuel a w hnm hdrop hsz hdone hu h
  have hlen:L.length≤m:=EB.1 hdrop
  have hr:Region.ready .any L.toArray done=[]:=by
   cases hr:Region.ready .any L.toArray done with
   |nil=>rfl
   |cons i r=>
    have hm:i∈Region.ready .any L.toArray done:=by rw [hr];exact oc ..
    obtain⟨hun,o,ho,_⟩:=sV.1 hm
    have hi:i<L.length:=by simpa using (sr.1 ho).1
    have:=(hdone i hi).2 (by omega)
    rw [o3 (by omega)]at hun
    rw [hun]at this;cases this
  cases fuel with
  |zero=>exact⟨hr,h⟩
  |succ f=>exact⟨fun _=>h,fun i hi=>by rw [hr]at hi;cases hi⟩
 |cons o rest ih=>
  intro m done fuel a w hnm hdrop hsz hdone hu h
  have hm:m<L.length:=by
   rcases m2 m L.length with h' |h'
   ·exact h'
   ·rw [EB.2 h']at hdrop;cases hdrop
  have hLm:L[m]? =some o:=by
   have:=wh (xs:=L) (i:=m) (j:=0)
   rw [hdrop]at this
   simpa using this.symm
  have hmu:done.getD m true=false:=by
   have hnot: ¬(done.getD m false=true):=fun h2=>by have:=(hdone m hm).1 h2;omega
   rw [o3 (by omega)]
   exact yL _▸hnot
  have honly: ∀i∈Region.ready .any L.toArray done,i=m:=by
   intro i hi
   obtain⟨hun,p,hp,hwait⟩:=sV.1 hi
   have hp' :L[i]? =some p:=by simpa using hp
   have hil:i<L.length:=(pc.1 hp').1
   have hid: ¬i<m:=fun hlt=>by
    have h2:=(hdone i hil).2 hlt
    rw [o3 (by omega)]at hun
    rw [hun]at h2;cases h2
   rcases m2 m i with hlt|hge
   ·exfalso
    have hcov:=hc i p (by omega) hp'
    unfold vM at hcov
    have hre:=m3.1 hcov m (by simpa using hlt)
    have:done.getD m false=true:=by
     refine gH (L:=L) (done:=done) (fun j q hj hjd e he hb=>?_) _ i m (fun q hq e he hb=>?_) hre
     ·have hjl:j<L.length:=(pc.1 hj).1
      have hjm:=(hdone j hjl).1 hjd
      have:=hedge j q hj
      unfold fq at this
      have:=m3.1 this e (by simpa using he)
      simp only [hb,tF,we,uJ]at this
      exact(hdone e.on (by omega)).2 (by omega)
     ·have:q=p:=by rw [hp']at hq;simpa using hq.symm
      subst this
      exact hwait e he hb
    have:=(hdone m hm).1 this
    omega
   ·omega
  have hready:m∈Region.ready .any L.toArray done:=by
   rw [sV]
   refine⟨hmu,o,by simpa using hLm,fun e he hb=>?_⟩
   have:=hedge m o hLm
   unfold fq at this
   have:=m3.1 this e (by simpa using he)
   simp only [hb,tF,we,uJ]at this
   exact(hdone e.on (by omega)).2 this
  cases fuel with
  |zero=>
   have:=tN hu (i:=m) (by omega)
   have:=(hdone m hm).1 this
   omega
  |succ fuel=>
   refine⟨fun hr=>(by rw [hr]at hready;cases hready),fun i hi=>?_⟩
   have:=honly i hi
   subst this
   have hnext:=fun a w=>ih (i+1) (done.setIfInBounds i true) fuel a w (by omega) (by rw [←vd,hdrop];rfl) (by simpa using hsz) (fun j hj=>by
    by_cases hij:i=j
    ·subst hij;have:i<done.size:=by omega
     simp [this]
    ·rw [uN false hij,hdone j hj];omega) (by have:=qW hmu;omega)
   unfold wpOpIn
   have hLm' :L.toArray[i]? =some o:=by simpa using hLm
   rw [hLm']
   show if _ then _ else _
   unfold wpListIn at h
   by_cases hw:Region.wanted o (yielded L.toArray a.tmps)=true
   ·rw [bQ hw]at h ⊢;exact Oper.wpIn_mono (fun a w hk=>hnext a w hk) h
   ·rw [bI hw]at h ⊢;exact⟨h.1,hnext _ _ h.2⟩
theorem He{l t:List Oper}(hsl:vp E.N.n [] l=true)(hlen:ts.length=l.length)(hd:DR E O G (l++t) ts 0 l)(ht:xF (l++t) l.length t.length=true)(hQ: ∀a w S,St E O (Jv l ts G) a w S→wpListIn (fw E.r) 0 E.P (l++t).toArray Q t a w):
  ∀(fuel:Nat) (done:Array Bool) (a:Act) (w:World) (S:SH),mf done=fuel→(∀j,l.length≤j→done.getD j false=false)→DJ E O G (l++t) ts done a w S→wpAnyIn (fw E.r) 0 E.P .any (l++t).toArray Q fuel done a w:=by
 have hL1: ∀i o,i<l.length→(l++t)[i]? =some o→l[i]? =some o:=fun i o hi h=>by rwa [vh hi]at h
 have hL2: ∀i o,l[i]? =some o→(l++t)[i]? =some o:=fun i o h=>by rw [vh (pc.1 h).1];exact h
 have htail: ∀m o,l.length≤m→(l++t)[m]? =some o→vM (l++t) m=true∧fq m o=true:=fun m o hm ho=>by
  have hml:m<(l++t).length:=(pc.1 ho).1
  rw [mt]at hml
  unfold xF at ht
  have:=m3.1 ht (m-l.length) (by simp;omega)
  rw [show l.length+(m-l.length)=m from by omega,ho]at this
  simp only [iz]at this
  exact⟨this.1,this.2.1⟩
 have hedge: ∀i o,(l++t)[i]? =some o→fq i o=true:=fun i o hi=>by
  rcases m2 i l.length with h|h
  ·obtain⟨_,_,_,_,_,h,_⟩:=DR.get l 0 hd i o (hL1 i o h hi)
   simpa using h
  ·exact(htail i o h hi).2
 obtain⟨hs1,hs2⟩:=ww l [] hsl
 have fin: ∀fuel done a w S,mf done=fuel→(∀j,l.length≤j→done.getD j false=false)→DJ E O G (l++t) ts done a w S→(∀i,i<l.length→done.getD i false=true)→wpAnyIn (fw E.r) 0 E.P .any (l++t).toArray Q fuel done a w:=by
  intro fuel done a w S hu hfree h hall
  refine ya (n:=l.length) (fun m o hm ho=>(htail m o hm ho).1) hedge t l.length done fuel a w (gB _) (by simp) h.dsz (fun j hj=>⟨fun hjd=>?_,fun hlt=>hall j hlt⟩) hu
   (hQ a w S ⟨h.ext,h.sat,h.own,h.size,h.defers,fun j u hj=>?_⟩)
  ·rcases m2 j l.length with h' |h'
   ·exact h'
   ·rw [hfree j h']at hjd;cases hjd
  ·rcases E1 l ts j u (fun o ho e=>by obtain⟨d,hd,_⟩:=hs1 o ho;rw [hd]at e;cases e) hlen hj with⟨i,o,h1,h2,h3⟩|⟨h1,h2⟩
   ·exact h.new i o j u (hL2 i o h1) (hall i (pc.1 h1).1) h2 h3
   ·refine h.old j u h1 fun i o ho hdn=>?_
    rcases m2 i l.length with h' |h'
    ·exact h2 o (qS (hL1 i o h' ho))
    ·rw [hfree i h']at hdn;cases hdn
 have lower: ∀done a w S i,(∀j,l.length≤j→done.getD j false=false)→DJ E O G (l++t) ts done a w S→i∈Region.ready .any (l++t).toArray done→l.length≤i→ ∀j,j<l.length→done.getD j false=true:=by
  intro done a w S i hfree h hi hge j hj
  obtain⟨hun,p,hp,hwait⟩:=sV.1 hi
  have hp' :(l++t)[i]? =some p:=by simpa using hp
  have hcov:=(htail i p hge hp').1
  unfold vM at hcov
  have hre:=m3.1 hcov j (by simp;omega)
  exact gH h.down _ i j (fun q hq e he hb=>by
   have:q=p:=by rw [hp']at hq;simpa using hq.symm
   subst this
   exact hwait e he hb) hre
 intro fuel
 induction fuel with
 |zero=>
  intro done a w S hu hfree h
  exact fin 0 done a w S hu hfree h fun i hi=>tN hu (by rw [h.dsz,mt];omega)
 |succ fuel ih=>
  intro done a w S hu hfree h
  by_cases hall: ∀i,i<l.length→done.getD i false=true
  ·exact fin _ done a w S hu hfree h hall
  have hready0: ∀m i,i<m→i<l.length→Region.ready .any (l++t).toArray done=[]→done.getD i false=true:=by
   intro m
   induction m with
   |zero=>intro i h;omega
   |succ m ihm=>
    intro i him hil hr
    have his:i<done.size:=by rw [h.dsz,mt];omega
    by_cases hdn:done.getD i true=true
    ·rw [←o3 his];exact hdn
    ·exfalso
     obtain⟨o,ho⟩: ∃o,(l++t)[i]? =some o:=⟨l[i],hL2 i _ (nP hil)⟩
     have hmem:i∈Region.ready .any (l++t).toArray done:=by
      rw [sV]
      refine⟨by simpa using hdn,o,by simpa using ho,fun e he hb=>?_⟩
      have:=hedge i o ho
      unfold fq at this
      have:=m3.1 this e (by simpa using he)
      simp only [hb,tF,we,uJ]at this
      exact ihm e.on (by omega) (by omega) hr
     rw [hr]at hmem;cases hmem
  refine⟨fun hr=>absurd (fun i hi=>hready0 (i+1) i (by omega) hi hr) hall,fun i hi=>?_⟩
  have hil:i<l.length:=by
   rcases m2 i l.length with h' |h'
   ·exact h'
   ·exact absurd (lower done a w S i hfree h hi h') hall
  obtain⟨hun,o,ho,hwait⟩:=sV.1 hi
  have ho' :(l++t)[i]? =some o:=by simpa using ho
  have hol:=hL1 i o hil ho'
  obtain⟨needs,u,h1,h2,h3,_,h5⟩:=DR.get l 0 hd i o hol
  rw [pj]at h1 h3
  have hF:=h.need ho' hun hwait h2 h3
  have h6:=h5 a w S h.sat h.own hF
  have hu' :mf (done.setIfInBounds i true)=fuel:=by have:=qW hun;omega
  obtain⟨d,hdd,hdN,_⟩:=hs1 o (qS hol)
  have huq: ∀j p,(l++t)[j]? =some p→done.getD j false=true→p.dst=some d→i=j:=fun j p hj hjd hpd=>by
   rcases m2 j l.length with h' |h'
   ·exact hs2 i j o p hol (hL1 j p h' hj) (by rw [hdd,hpd])
   ·rw [hfree j h']at hjd;cases hjd
  have hfree' : ∀j,l.length≤j→(done.setIfInBounds i true).getD j false=false:=fun j hj=>by
   rw [uN false (by omega)];exact hfree j hj
  unfold wpOpIn
  rw [ho]
  show if _ then _ else _
  by_cases hw:Region.wanted o (yielded (l++t).toArray a.tmps)=true
  ·rw [bQ hw]at h6 ⊢
   refine lR (fun a' w' ⟨v,S',ha,he,hs,hv⟩=>?_) h6
   subst ha
   exact ih _ _ _ S' hu' hfree' (h.stepT ho' hdd hdN huq hwait h1 hun he hs hv)
  ·rw [bI hw]at h6 ⊢
   exact⟨fun _ _=>trivial,ih _ _ _ S hu' hfree' (h.stepT ho' hdd hdN huq hwait h1 hun (hY _ _ _) h.sat h6)⟩
theorem PG{id:Nat}{l t:List Oper}(hL:L=l++t)(hm:E.P.follows .mixedOrders=true)(hsl:vp E.N.n [] l=true)(hlen:ts.length=l.length)(ht:xF L l.length t.length=true)(hd:DR E O G L ts 0 l)(k:RG E L.toArray Q t O (Jv l ts G)):CG E Q (.region id L.toArray true) O G:=fun a w S st=>by
 subst hL
 refine wpIn_region_any hm ?_
 obtain⟨he,hs⟩:=xa (w:=w) st.sat
 refine He hsl hlen hd ht (fun a w S st=>k a w S st) _ _ _ _ S ?_ (fun j _=>?_)
  ⟨st.ext.step0 he,hs,st.own.ext0 he,st.facts.size,st.facts.defers,by simp,fun j o hj hdone=>?_,fun k t hk _=>st.facts.at_ k t hk,fun j o d t hj hdone=>?_⟩
 ·unfold mf;rw [Kp,Km];simp
 ·simp [xY];split<;>rfl
 ·simp [xY]at hdone
  split at hdone<;>simp at hdone
 ·simp [xY]at hdone
  split at hdone<;>simp at hdone

abbrev It(α:Type):=(σ:Type)→(α→σ→Option (Bool×σ))→σ→Option σ

def qR(Se:SH)(O:List OE):OE where
 fp:=fun k=> ∃f∈O,f.fp k
 p:=fun w S=>SH.le Se S∧ee 0 qP w S O
 here:=fun⟨_,h⟩ _ ⟨f,hf,hk⟩=>f.here (ee.mem h f hf).1 _ hk
 kept:=fun⟨h1,h2⟩ k hC=>⟨SH.le_trans h1 k.keep,h2.ext k fun f hf b hb=>hC b ⟨f,hf,hb⟩⟩
theorem ee.weak: ∀{O:List OE},ee base B w S O→ee 0 qP w S O
 |[],_=>trivial
 |_::_,⟨h1,h2,h3⟩=>⟨⟨h1.1,fun _ _=> .inl (jz _)⟩,h2,ee.weak h3⟩
theorem nN: ∀{O:List OE},ee 0 qP w S O→(∀f∈O,∀k,f.fp k→base≤k∨B k)→ee base B w S O
 |[],_,_=>trivial
 |_::_,⟨h1,h2,h3⟩,h=>⟨⟨h1.1,h _ (oc ..)⟩,h2,nN h3 fun f hf=>h f (oS _ hf)⟩
def vy(l:Nat)(r:Loop)(st:LoopState):OE where
 fp:=fun k=>k=l
 p:=fun w S=>S l=none∧w.heap[l]? =some (.loop {r with state:=st,pending:=none})
 here:=by
  intro w S h k hk
  subst hk
  exact(sr.1 h.2).1
 kept:=by
  intro C w w' S S' h k hC
  have hlt:=(sr.1 h.2).1
  exact⟨by rw [k.old l hlt (hC l rfl)];exact h.1,by rw [k.heap l hlt (hC l rfl)];exact h.2⟩
def G2(b:Nat):OE where
 fp:=fun k=>k=b
 p:=fun w S=>S b=none∧w.heap[b]? =some (.deferred (some []))
 here:=by
  intro w S h k hk
  subst hk
  exact(sr.1 h.2).1
 kept:=by
  intro C w w' S S' h k hC
  have hlt:=(sr.1 h.2).1
  exact⟨by rw [k.old b hlt (hC b rfl)];exact h.1,by rw [k.heap b hlt (hC b rfl)];exact h.2⟩
def wJ(b:Nat):Deferred:={target:= .collected b,args:= #[]}

def UV(P:Program){α σ:Type}(args:α→List Ty)(y:α→σ→Option (Bool×σ))(I:σ→OE→Prop)(yv:Value):Prop:=
 ∃l,yv= .func (.yield l) #[] #[]∧ ∀x s r,y x s=some r→ ∀e,I s e→ ∀w S vs,jp w S→e.p w S→vO S (args x) vs→
  ∃f tmps assign body,(Instr.yield l vs.toArray).run P w= .ok (.round l f tmps assign body) w∧
   RoundIn (fw none) 0 P l f tmps assign body w fun en w' => ∃e' S',en= .returned (.bool r.1)∧I r.2 e' ∧gW e.fp w S w' S' ∧jp w' S' ∧e'.p w' S' ∧ ∀k,e'.fp k→e.fp k∨w.heap.size≤k
def PD(P:Program){α:Type}(args:α→List Ty)(it:It α)(fid:FuncId)(cap:Array Value)(fp:Nat→Prop)(w:World)(S:SH):Prop:=
 ∀(σ:Type) (y:α→σ→Option (Bool×σ)) (s s' :σ),it σ y s=some s' → ∀I yv,UV P args y I yv→ ∀e,I s e→e.p w S→(∀k,e.fp k→ ¬fp k)→
  Calls P fid (#[yv]++cap) w fun en w' => ∃e' S',(∃v,en= .returned v)∧I s' e' ∧gW (fun k=>e.fp k∨fp k) w S w' S' ∧jp w' S' ∧e'.p w' S' ∧ ∀k,e'.fp k→e.fp k∨w.heap.size≤k
def SQ(P:Program){α:Type}(args:α→List Ty)(it:It α)(v:Value)(fp:Nat→Prop):OE where
 fp:=fp
 p:=fun w S=>(∀k,fp k→k<w.heap.size)∧ ∃fid cap,v= .func (.func fid) #[] cap∧au P fid=true∧
  ∀C w' S',gW C w S w' S' →(∀k,fp k→ ¬C k)→jp w' S' →PD P args it fid cap fp w' S'
 here:=fun h k hk=>h.1 k hk
 kept:=by
  rintro C w w' S S' ⟨h1,fid,cap,h2,h3,h4⟩ k hC
  refine⟨fun b hb=>wg (h1 b hb) k.size,fid,cap,h2,h3,fun C' w'' S'' k' hC' hs=>?_⟩;exact h4 (fun b=>C b∨C' b) w'' S'' ((k.more fun b hb=> .inl hb).trans (k'.more fun b hb=> .inr hb)) (fun b hb h=>h.elim (hC b hb) (hC' b hb)) hs

def DO(P:Program)(fid:FuncId){α:Type}(args:α→List Ty)(it:It α)(O:List OE)(cts:List Ty):Prop:=
 ∀w S cap,jp w S→ee 0 qP w S O→vO S cts cap→PD P args it fid cap.toArray (fun k=> ∃f∈O,f.fp k) w S
def UF(E:En){σ:Type}(I:σ→OE→Prop)(s:σ)(e0:OE):Ending→World→Prop:=fun en w' => ∃e' S',(∃v,en= .returned v)∧I s e' ∧gW E.B E.w0 E.S0 w' S' ∧jp w' S' ∧e'.p w' S' ∧ ∀k,e'.fp k→e0.fp k∨E.w0.heap.size≤k
variable{σ:Type}{I:σ→OE→Prop}{args:α→List Ty}{cts:List Ty}{it:It α}
theorem DO.of(hf:P.funcs[f]? =some fn)(hb:fn.body=some c)(hN:fn.ntmps=N)(hn:Nat.ble (cts.length+1) N=true)(h: ∀(σ:Type) (y:α→σ→Option (Bool×σ)) (s s' :σ),it σ y s=some s' → ∀I yv,UV P args y I yv→ ∀e,I s e→ ∀w0 S0 B,(∀k,B k→e.fp k∨ ∃f∈O,f.fp k)→
   CG ⟨P,⟨N,[]⟩,B,w0,S0,none⟩ (bodyPost P fn (UF ⟨P,⟨N,[]⟩,B,w0,S0,none⟩ I s' e)) c (e::O) (vY 0 (tV yv::cts))):DO P f args it O cts:=by
 subst hN
 intro w S cap hs ho hc σ y s s' hit I yv hy e he hep hap
 have hown:ee w.heap.size (fun k=>e.fp k∨ ∃f∈O,f.fp k) w S (e::O):=
  ⟨⟨hep,fun k hk=> .inr (.inl hk)⟩,fun f hf b hb hfb=>hap b hb ⟨f,hf,hfb⟩,nN ho fun f hf k hk=> .inr (.inr ⟨f,hf,hk⟩)⟩
 have hfacts:=ri (S:=S) (ts:=tV yv::cts) (vs:=yv::cap) ⟨rfl,hc⟩ fn.ntmps (by simpa using qc hn)
 have:=nq.1 (callsIn_of_wp (F:=fw none) (n:=0) hf hb trivial (h σ y s s' hit I yv hy e he w S (fun k=>e.fp k∨ ∃f∈O,f.fp k) (fun _ h=>h) _ w S ⟨hY _ _ _,hs,hown,hfacts⟩))
 rw [show(#[yv]++cap.toArray:Array Value)=(yv::cap).toArray from by simp]
 exact this.mono fun en w' ⟨e',S',h1,h2,h3,h4,h5,h6⟩=>⟨e',S',h1,h2,h3,h4,h5,h6⟩
section
variable{ty:TypeId}
theorem Oh{e e' :OE}{O:List OE}(h:ee base B w S (e::O))(k:gW e.fp w S w' S')(hp:e'.p w' S')(hn: ∀b,e'.fp b→e.fp b∨w.heap.size≤b)(hb:base≤w.heap.size):ee base B w' S' (e' ::O):=
 ⟨⟨hp,fun b hb' =>(hn b hb').elim (fun h2=>h.1.2 b h2) (fun h2=> .inl (by omega))⟩,fun f hf b hb' hfb=>(hn b hb').elim (fun h2=>h.2.1 f hf b h2 hfb) (fun h2=>by
  have:=f.here (ee.mem h.2.2 f hf).1 b hfb
  omega),h.2.2.ext k fun f hf b hb' h2=>h.2.1 f hf b h2 hb'⟩
theorem Pz{y:α→σ→Option (Bool×σ)}{yv:Value}{x:α}{s:σ}{r:Bool×σ}{e:OE}{fo:Operand}{xs:List Operand}(hy:UV E.P args y I yv)(he:I s e)(hq:y x s=some r)(hf:aL E.N G fo (tV yv))(hx:lB E.N G xs (args x))(hd:Nat.blt d E.N.n=true)(k: ∀e',I r.2 e' →RG E ops Q rest (e' ::O) ((d,tD rB r.1)::G)):RG E ops Q (⟨some d,.call ⟨.value fo,xs.toArray,ats⟩,ty,pos,after,none⟩::rest) (e::O) G:= .of rfl fun a w S st=>by
 obtain⟨l,rfl,hyl⟩:=hy
 have h1:a.eval fo= .func (.yield l) #[] #[]:=hf S a st.facts
 obtain⟨f,tmps,assign,body,h2,h3⟩:=hyl x s r hq e he w S _ st.sat st.own.1.1 (hx.tys st.facts)
 have hr:(execOp a.eval ⟨some d,.call ⟨.value fo,xs.toArray,ats⟩,ty,pos,after,none⟩).run E.P w= .ok (.round l f tmps assign body) w:=by
  simp [execOp,resolve,h1,Deferred.ofValue,invoke]
  simpa using h2
 refine⟨fun c h=>(by cases h),?_⟩
 rw [hr]
 refine h3.mono fun en w' ⟨e',S',h4,h5,h6,h7,h8,h9⟩=>⟨_,h4,?_⟩;exact k e' h5 _ _ S' ⟨st.ext.step h6 (fun b hb=>st.own.1.2 b hb),h7,Oh st.own h6 h8 h9 st.base_le,(st.facts.mono h6.keep).put hd (iv.2 rfl)⟩
end
def E7:List OE→List OE→Prop
 |[],_=>True
 |f::O,g::O' =>(∀k,f.fp k→g.fp k)∧E7 O O'
 |_::_,[]=>False
theorem E7.mem: ∀{O O' :List OE},E7 O O' → ∀k,(∃f∈O,f.fp k)→ ∃f∈O',f.fp k
 |f::O,g::O',⟨h1,h2⟩,k,⟨q,hq,hk⟩=>by
  rcases kp.1 hq with e|e
  ·subst e;exact⟨g,oc ..,h1 k hk⟩
  ·obtain⟨q',h3,h4⟩:=E7.mem h2 k ⟨q,e,hk⟩
   exact⟨q',oS _ h3,h4⟩
theorem LT{s:σ}{e0 e:OE}{O0:List OE}(hr:fn.results= #[])(he:I s e)(hB: ∀k,B k→e0.fp k∨ ∃f∈O0,f.fp k)(hO:E7 O0 O):
  AT ⟨P,⟨N,[]⟩,B,w0,S0,none⟩ (bodyPost P fn (UF ⟨P,⟨N,[]⟩,B,w0,S0,none⟩ I s e0)) .ret (e::O) G:=fun _ _ S st=>
 ⟨st.facts.defers,_,Aj P fn hr _ _,e,S,⟨_,rfl⟩,he,st.ext,st.sat,st.own.1.1,fun k hk=>(st.own.1.2 k hk).elim .inr fun hb=>(hB k hb).elim .inl fun hx=>let⟨f,hf,hfk⟩:=hO.mem k hx;absurd hfk (st.own.2.1 f hf k hk)⟩
theorem PI{s:σ}{e0 e:OE}{O0:List OE}(hr:fn.results= #[])(he:I s e)(hB: ∀k,B k→e0.fp k∨ ∃f∈O0,f.fp k)(hO:E7 O0 O):
  AT ⟨P,⟨N,[]⟩,B,w0,S0,none⟩ (bodyPost P fn (UF ⟨P,⟨N,[]⟩,B,w0,S0,none⟩ I s e0)) .normal (e::O) G:=fun a w S st=>LT hr he hB hO a w S st

variable{O1:List OE}{ι:Type}{O2:ι→List OE}
theorem p8: ∀{O1 O2:List OE},ee base B w S (O1++O2)→ee base B w S O1∧ee base B w S O2∧ ∀e∈O1,∀f∈O2,e.apart f
 |[],_,h=>⟨trivial,h,fun _ h=>(by cases h)⟩
 |e::O1,O2,⟨h1,h2,h3⟩=>by
  obtain⟨k1,k2,k3⟩:=p8 h3
  refine⟨⟨h1,fun f hf=>h2 f (EA _ hf),k1⟩,k2,fun g hg f hf=>?_⟩
  rcases kp.1 hg with rfl|hg
  ·exact h2 f (List.mem_append_right _ hf)
  ·exact k3 g hg f hf
theorem ee.cons{e:OE}(h1:e.holds base B w S)(h2: ∀f∈O,e.apart f)(h3:ee base B w S O):ee base B w S (e::O):=⟨h1,h2,h3⟩

def DB(P:Program)(f:FuncId)(ts:List Ty){α:Type}(args:α→List Ty)(it:It α):Prop:=
 ∀w S vs,jp w S→vO S ts vs→Calls P f vs.toArray w fun e w' => ∃v fp S',e= .returned v∧gW qP w S w' S' ∧jp w' S' ∧(SQ P args it v fp).holds w.heap.size qP w' S'
def SV(E:En){α:Type}(args:α→List Ty)(it:It α):Ending→World→Prop:=fun e w' => ∃v fp S',e= .returned v∧gW E.B E.w0 E.S0 w' S' ∧jp w' S' ∧(SQ E.P args it v fp).holds E.w0.heap.size E.B w' S'
theorem DB.of(hf:P.funcs[f]? =some fn)(hb:fn.body=some c)(hN:fn.ntmps=N)(hn:Nat.ble ts.length N=true)(h: ∀w0 S0,CG ⟨P,⟨N,[]⟩,qP,w0,S0,none⟩ (bodyPost P fn (SV ⟨P,⟨N,[]⟩,qP,w0,S0,none⟩ args it)) c [] (vY 0 ts)):DB P f ts args it:=by
 subst hN
 intro w S vs hs hv
 exact nq.1 (callsIn_of_wp (F:=fw none) (n:=0) hf hb trivial (h w S _ w S ⟨hY _ _ _,hs,trivial,ri hv _ (qc hn)⟩))
section
theorem PH{k:Nat}{v:Value}{fp:Nat→Prop}(hr:fn.results= #[.tmp k])(hk:look G k=some (tV v)):
  AT ⟨P,⟨N,[]⟩,B,w0,S0,none⟩ (bodyPost P fn (SV ⟨P,⟨N,[]⟩,B,w0,S0,none⟩ args it)) .ret (SQ P args it v fp::O) G:=fun a w S st=>by
 have hv:a.tmps.getD k undef=v:=st.facts.at_ k _ hk
 exact⟨st.facts.defers,_,pt P fn k hr _ _,v,fp,S,by rw [hv],st.ext,st.sat,st.own.1⟩
section
variable{ty:TypeId}
theorem Fv{xs:List Operand}(hc:au E.P f=true)(hs:DB E.P f ts args it)(hx:lB E.N G xs ts)(hd:Nat.blt d E.N.n=true)(k: ∀v fp,RG E ops Q rest (SQ E.P args it v fp::O) ((d,tV v)::G)):
  RG E ops Q (⟨some d,.call ⟨.value (.func f),xs.toArray,ats⟩,ty,pos,after,none⟩::rest) O G:= .of rfl fun a w S st=>by
 have hr:(execOp a.eval ⟨some d,.call ⟨.value (.func f),xs.toArray,ats⟩,ty,pos,after,none⟩).run E.P w= .ok (.enter f (xs.map a.eval).toArray) w:=by
  simp [execOp,resolve,Act.eval,Deferred.ofValue,invoke,f7 hc]
 refine⟨fun c h=>(by cases h),?_⟩
 rw [hr]
 refine(hs w S _ st.sat (hx.tys st.facts)).mono fun e w' ⟨v,fp,S',he,h1,h2,h3⟩=>⟨_,he,?_⟩;exact k v fp _ _ S' ⟨st.ext.step0 h1,h2,qD st.own h1 h3.1 (fun b hb=>(h3.2 b hb).resolve_right id) st.base_le,(st.facts.mono h1.keep).put hd rfl⟩
theorem ID{fid:FuncId}{O2:List OE}{caps:List Operand}(hO:O=O1++O2)(hc:au E.P fid=true)(hs:DO E.P fid args it O1 cts)(hcap:lB E.N G caps cts)(hd:Nat.blt d E.N.n=true)(k: ∀v fp,RG E ops Q rest (SQ E.P args it v fp::O2) ((d,tV v)::G)):
  RG E ops Q (⟨some d,.makeFunc (.func fid) #[] caps.toArray,ty,pos,after,none⟩::rest) O G:= .of rfl fun a w S st=>by
 subst hO
 have hr:(execOp a.eval ⟨some d,.makeFunc (.func fid) #[] caps.toArray,ty,pos,after,none⟩).run E.P w= .ok (.value (.func (.func fid) #[] (caps.map a.eval).toArray)) w:=by simp [execOp,Instr.makeFunc]
 refine⟨fun c h=>(by cases h),?_⟩
 rw [hr]
 obtain⟨h1,h2,h3⟩:=p8 st.own
 have hcv:=hcap.tys st.facts
 refine k (.func (.func fid) #[] (caps.map a.eval).toArray) (fun k=> ∃f∈O1,f.fp k) _ _ S ⟨st.ext,st.sat,?_,st.facts.put hd rfl⟩;refine ee.cons ⟨⟨fun b ⟨f,hf,hb⟩=>f.here (ee.mem h1 f hf).1 b hb,fid,_,rfl,hc,fun C w' S' he hC hs' =>?_⟩,fun b ⟨f,hf,hb⟩=>(ee.mem h1 f hf).2 b hb⟩ (fun f hf b ⟨g,hg,hb⟩=>h3 g hg f hf b hb) h2;exact hs w' S' _ hs' (h1.weak.ext he fun f hf b hb=>hC b ⟨f,hf,hb⟩) (hcv.mono he.keep)
end
end

def EQ:List Nat→List Ty→mr→mr
 |d::ds,t::ts,G=>EQ ds ts ((d,t)::G)
 |_,_,G=>G
theorem yA{N:Fr}{S:SH}: ∀(ds:List Nat) (ts:List Ty) (vs:List Value) (a:Act) (G:mr),ds.length=ts.length→vO S ts vs→(ds.all fun d=>Nat.blt d N.n)=true→di N S a G→
  di N S {tmps:=(ds.zip vs).foldl (fun t (p:Nat×Value)=>t.setIfInBounds p.1 p.2) a.tmps,defers:=a.defers} (EQ ds ts G)
 |[],_,_,_,_,hl,_,_,hF=>by
  cases uL hl.symm
  simpa [EQ] using hF
 |d::ds,[],_,_,_,hl,_,_,_=>by simp at hl
 |d::ds,t::ts,[],_,_,_,hv,_,_=>hv.elim
 |d::ds,t::ts,v::vs,a,G,hl,⟨h1,h2⟩,hd,hF=>by
  simp only [yI,iz]at hd
  have:=yA ds ts vs (a.put (some d) v) ((d,t)::G) (by simpa using hl) h2 hd.2 (hF.put hd.1 h1)
  simpa [EQ,Act.put] using this
def TA(E:En)(l:Nat)(rec:Loop){σ ι:Type}(Oi:ι→List OE)(dat:ι→σ)(s2:σ):Ending→World→Prop:=fun en w' =>
 ∃i S',en= .returned (.bool true)∧dat i=s2∧gW E.B E.w0 E.S0 w' S' ∧jp w' S' ∧ee E.base E.B w' S' (vy l rec .ready::Oi i)
def Sq(E:En)(l:Nat)(body:Code)(R:Ending→World→Prop):Exit→Act→World→Prop:=
 Exit.then (fun a₁ w₁=> ∃w₂,(Instr.beginRound l).run E.P w₁= .ok () w₂∧body.wpIn (fw E.r) 0 E.P (roundPost E.P l R) a₁ w₂) (fun _ _ _=>False)
variable{rec:Loop}{x1 x2 x3:OE}
section
theorem F7{l:Nat}{st st' :LoopState}{O:List OE}(h:ee base B w S (vy l rec st::O))(hs:jp w S):
  gW (fun k=>k=l) w S (w.putObj l (.loop {rec with state:=st',pending:=none})) S∧jp (w.putObj l (.loop {rec with state:=st',pending:=none})) S∧ee base B (w.putObj l (.loop {rec with state:=st',pending:=none})) S (vy l rec st' ::O):=by
 obtain⟨hno,hl⟩:=h.1.1
 have hlt:=(sr.1 hl).1
 have hext:gW (fun k=>k=l) w S (w.putObj l (.loop {rec with state:=st',pending:=none})) S:=⟨rfl,rfl,rfl,gB _,by simp,fun k _ hk=>World.putObj_heap_other hk,SH.le_refl _,fun _ _ _=>rfl⟩
 refine⟨hext,hs.same fun k o hk=>?_,⟨⟨hno,World.putObj_heap_same hlt⟩,h.1.2⟩,h.2.1,h.2.2.ext hext fun g hg k hk hkl=>h.2.1 g hg k hkl hk⟩
 have hne:k≠l:=fun e=>by subst e;rw [hno]at hk;cases hk
 exact World.putObj_heap_other hne
theorem PK{l:Nat}{body:Code}{R:Ending→World→Prop}(h:CG E (roundPost E.P l R) body (vy l rec .busy::O) G):AT E (Sq E l body R) .normal (vy l rec .ready::O) G:=fun a w S st=>by
 obtain⟨h1,h2,h3⟩:=F7 (st' := .busy) st.own st.sat
 obtain⟨_,hl⟩:=st.own.1.1
 exact⟨_,run_beginRound hl rfl,h a _ S ⟨st.ext.step h1 (fun c hc=>st.own.1.2 c hc),h2,h3,st.facts⟩⟩
theorem IS{l:Nat}{Oi:ι→List OE}{dat:ι→σ}{s2:σ}(i:ι)(hi:dat i=s2)(hO:O=Oi i):AT E (roundPost E.P l (TA E l rec Oi dat s2)) .normal (vy l rec .busy::O) G:=fun a w S st=>by
 subst hO
 obtain⟨h1,h2,h3⟩:=F7 (st' := .ready) st.own st.sat
 obtain⟨_,hl⟩:=st.own.1.1
 exact⟨_,_,run_endRound none hl,i,S,rfl,hi,st.ext.step h1 (fun c hc=>st.own.1.2 c hc),h2,h3⟩
theorem vZ{ps:Array Nat}{vs:List Value}{tmps:Array Value}:(ps.zip vs.toArray).foldl (fun t (p,v)=>t.setIfInBounds p v) tmps=(ps.toList.zip vs).foldl (fun t (p:Nat×Value)=>t.setIfInBounds p.1 p.2) tmps:=by
 rw [←Array.foldl_toList]
 simp
def tv{α σ:Type}(f:α→σ→Option σ):α→σ→Option (Bool×σ):=fun x s=>(f x s).map fun s' =>(true,s')
theorem Nv{v:Value}{fp:Nat→Prop}(Oi:ι→List OE)(dat:ι→σ){f:α→σ→Option σ}{s' :σ}{g:Operand}{ps:List Nat}{assign body:Code}(hr:E.r=none)(hg:aL E.N G g (tV v))(i0:ι)(hO:O=SQ E.P args it v fp::Oi i0)(hit:it σ (tv f) (dat i0)=some s')(hps: ∀x,ps.length=(args x).length)(hpn:(ps.all fun d=>Nat.blt d E.N.n)=true)(hbody: ∀(i:ι) (x:α) (s2:σ),f x (dat i)=some s2→ ∀(l:Nat) (rec:Loop) (w1:World) (S1:SH) (B1:Nat→Prop),
   CG ⟨E.P,⟨E.N.n,[]⟩,B1,w1,S1,some l⟩ (Sq ⟨E.P,⟨E.N.n,[]⟩,B1,w1,S1,some l⟩ l body (TA ⟨E.P,⟨E.N.n,[]⟩,B1,w1,S1,some l⟩ l rec Oi dat s2)) assign (vy l rec .ready::Oi i) (EQ ps (args x) G))(k: ∀i',dat i' =s' → ∀b,AT ⟨E.P,⟨E.N.n,wJ b::E.N.ds⟩,E.B,E.w0,E.S0,E.r⟩ Q .normal (G2 b::Oi i') G):CG E Q (.rangeFunc g ps.toArray assign body) O G:=fun a w S st=>by
 subst hO
 refine wpIn_rangeFunc fun fn _=>?_
 have hr0:(fw E.r).round=none:=hr
 have hfw:fw E.r=fw none:=by rw [hr]
 rw [hr0]
 obtain⟨rec,hrec⟩: ∃rec:Loop,rec={state:= .ready,pending:=none,fn,tmps:=a.tmps,params:=ps.toArray,assign,body,defers:=w.heap.size}:=⟨_,rfl⟩
 obtain⟨x1,x2,x3⟩:=fS (w:=w) (.deferred (some [])) st.sat
 obtain⟨y1,y2,y3⟩:=fS (w:=w.alloc (.deferred (some []))) (.loop rec) x2
 obtain⟨W1,hW1⟩: ∃W1,(w.alloc (.deferred (some []))).alloc (.loop rec)=W1:=⟨_,rfl⟩
 rw [hW1]at y1 y2
 have hsz:(w.alloc (.deferred (some []))).heap.size=w.heap.size+1:=by simp
 rw [hsz]at y3
 have hext:gW qP w S W1 S:=x1.trans y1
 have hL1:W1.heap[w.heap.size+1]? =some (.loop rec):=by
  rw [←hW1];have:=World.alloc_heap_new (w.alloc (.deferred (some []))) (.loop rec);rwa [hsz]at this
 have hK1:W1.heap[w.heap.size]? =some (.deferred (some [])):=by
  rw [y1.heap w.heap.size (by omega) (fun h=>h)];exact World.alloc_heap_new w _
 have hW1s:W1.heap.size=w.heap.size+2:=by rw [←hW1];simp
 have hg' :a.eval g=v:=hg S a st.facts
 obtain⟨hit1,hap,hoi⟩:=st.own
 obtain⟨⟨hfp,gf,cap,hv,hcal,hcall⟩,hbase⟩:=hit1
 have hbl:=st.base_le
 have hoi1:ee E.base E.B W1 S (Oi i0):=hoi.ext0 hext
 have hlt: ∀f∈Oi i0,∀k,f.fp k→k<w.heap.size:=fun f hf k hk=>f.here (ee.mem hoi f hf).1 k hk
 refine⟨w.heap.size+1,[wJ w.heap.size],W1,{target:= .fn (.func gf) cap,args:= #[.func (.yield (w.heap.size+1)) #[] #[]]},W1,gf,
  #[.func (.yield (w.heap.size+1)) #[] #[]]++cap,W1,?_,?_,fun _ _=>trivial,?_,fun h=>(by cases h),?_⟩
 ·rw [←hW1,hrec];exact run_enterLoop_outer _ _ _ _ _
 ·simp only [resolve,hg',hv]
  simp [go_sem]
 ·simp [invoke,go_sem,f7 hcal]
 rw [hfw]
 refine nq.2 ?_
 have hyld:UV E.P args (tv f) (fun s e=> ∃i,dat i=s∧e=qR S (vy (w.heap.size+1) rec .ready::Oi i)) (.func (.yield (w.heap.size+1)) #[] #[]):=by
  refine⟨_,rfl,?_⟩
  rintro x s r hy e ⟨i,rfl,rfl⟩ w2 S2 vs hs2 ⟨hle,hown⟩ hvs
  obtain⟨s2,hs2',rfl⟩: ∃s2,f x (dat i)=some s2∧r=(true,s2):=by
   unfold tv at hy
   cases hf:f x (dat i)with
   |none=>rw [hf]at hy;cases hy
   |some s2=>rw [hf]at hy;exact⟨s2,rfl,by simpa using hy.symm⟩
  have hl2:=hown.1.1.2
  have hvl:=hvs.length
  have hyr:=run_yield (P:=E.P) (args:=vs.toArray) hl2 (by rw [hrec];simp [hps x,hvl])
  refine⟨_,_,_,_,hyr,roundIn_of_wpIn trivial ?_⟩
  have:=hbody i x s2 hs2' (w.heap.size+1) rec w2 S2 (fun k=> ∃f∈vy (w.heap.size+1) rec .ready::Oi i,f.fp k)
   {tmps:=(ps.zip vs).foldl (fun t (p:Nat×Value)=>t.setIfInBounds p.1 p.2) a.tmps,defers:=[]} w2 S2
   ⟨hY _ _ _,hs2,nN hown fun f hf k hk=> .inr ⟨f,hf,hk⟩,yA ps (args x) vs ⟨a.tmps,[]⟩ G (hps x) hvs hpn ⟨st.facts.size,rfl,fun j t h=>t.mono hle (st.facts.at_ j t h)⟩⟩
  rw [hrec]
  rw [hrec]at this
  rw [vZ]
  refine wpIn_mono this ?_
  intro e a3 w3 hp
  cases e with
  |normal=>
   obtain⟨w4,hb4,hp4⟩:=hp
   refine⟨w4,hb4,wpIn_mono hp4 ?_⟩
   have hR: ∀en w',TA ⟨E.P,⟨E.N.n,[]⟩,fun k=> ∃f∈vy (w.heap.size+1) rec .ready::Oi i,f.fp k,w2,S2,some (w.heap.size+1)⟩ (w.heap.size+1) rec Oi dat s2 en w' →
     ∃e' S',en= .returned (.bool true)∧(∃i',dat i' =s2∧e' =qR S (vy (w.heap.size+1) rec .ready::Oi i'))∧gW (qR S (vy (w.heap.size+1) rec .ready::Oi i)).fp w2 S2 w' S' ∧jp w' S' ∧e'.p w' S' ∧ ∀k,e'.fp k→(qR S (vy (w.heap.size+1) rec .ready::Oi i)).fp k∨w2.heap.size≤k:=by
    rintro en w' ⟨i',S',h1,h2,h3,h4,h5⟩
    exact⟨_,S',h1,⟨i',h2,rfl⟩,h3,h4,⟨SH.le_trans hle h3.keep,h5.weak⟩,fun k ⟨f,hf,hk⟩=>((ee.mem h5 f hf).2 k hk).symm⟩
   rw [hrec]at hR
   intro e5 a5 w5 hp5
   cases e5<;>simp only [roundPost]at hp5 ⊢
   case normal=>obtain⟨v5,w6,h1,h2⟩:=hp5;exact⟨v5,w6,h1,hR _ _ h2⟩
   case ret=>obtain⟨v5,w6,h1,h2⟩:=hp5;exact⟨v5,w6,h1,hR _ _ h2⟩
   case exit=>obtain⟨v5,w6,h1,h2⟩:=hp5;exact⟨v5,w6,h1,hR _ _ h2⟩
   case goto=>obtain⟨v5,w6,h1,h2⟩:=hp5;exact⟨v5,w6,h1,hR _ _ h2⟩
  |_=>exact hp
 have hrecE:W1.heap[w.heap.size+1]? =some (.loop {rec with state:= .ready,pending:=none}):=by rw [hL1,hrec]
 have he0:(qR S (vy (w.heap.size+1) rec .ready::Oi i0)).p W1 S:=⟨SH.le_refl _,⟨⟨y3,hrecE⟩,fun _ _=> .inl (jz _)⟩,fun f hf k hk hfk=>by have:=hlt f hf k hfk;have hk' :k=w.heap.size+1:=hk;omega,hoi1.weak⟩
 have hap0: ∀k,(qR S (vy (w.heap.size+1) rec .ready::Oi i0)).fp k→ ¬fp k:=by
  rintro k ⟨f,hf,hk⟩ hfk
  rcases kp.1 hf with rfl|hf
  ·have:=hfp k hfk;have hk' :k=w.heap.size+1:=hk;omega
  ·exact hap f hf k hfk hk
 refine(hcall qP W1 S hext (fun _ _ h=>h) y2 σ (tv f) (dat i0) s' hit _ _ hyld _ ⟨i0,rfl,rfl⟩ he0 hap0).mono ?_
 rintro en w2 ⟨e',S2,⟨vr,rfl⟩,⟨i',hi',rfl⟩,hx2,hs2,⟨hle2,hown2⟩,hnew⟩
 have hl2:=hown2.1.1.2
 refine⟨none,_,run_endLoop hl2 (by simp),?_⟩
 have hb2:ee E.base E.B w2 S2 (vy (w.heap.size+1) rec .ready::Oi i'):=by
  refine nN hown2 fun f hf k hk=>?_
  rcases hnew k ⟨f,hf,hk⟩with⟨f0,hf0,hk0⟩|h
  ·rcases kp.1 hf0 with rfl|hf0
   ·left;have hk' :k=w.heap.size+1:=hk0;omega
   ·exact(ee.mem hoi f0 hf0).2 k hk0
  ·left;omega
 obtain⟨z1,z2,z3⟩:=F7 (st' := .exhausted) hb2 hs2
 have hdf:(G2 w.heap.size).p W1 S:=⟨x3,hK1⟩
 have hnb: ∀k,(G2 w.heap.size).fp k→ ¬((qR S (vy (w.heap.size+1) rec .ready::Oi i0)).fp k∨fp k):=by
  rintro k hk h
  have hk' :k=w.heap.size:=hk
  subst hk'
  rcases h with⟨f,hf,hfk⟩|h
  ·rcases kp.1 hf with rfl|hf
   ·have hk' :w.heap.size=w.heap.size+1:=hfk;omega
   ·have:=hlt f hf _ hfk;omega
  ·have:=hfp _ h;omega
 have UU:(G2 w.heap.size).p w2 S2:=(G2 w.heap.size).kept hdf hx2 hnb
 have hd3:=(G2 w.heap.size).kept UU z1 (fun k hk hkl=>by have h1:k=w.heap.size:=hk;have h2:k=w.heap.size+1:=hkl;omega)
 have hBin: ∀k,((qR S (vy (w.heap.size+1) rec .ready::Oi i0)).fp k∨fp k)→E.w0.heap.size≤k∨E.B k:=by
  rintro k (⟨f,hf,hk⟩|h)
  ·rcases kp.1 hf with rfl|hf
   ·left;have hk' :k=w.heap.size+1:=hk;have:E.w0.heap.size≤w.heap.size:=hbl;omega
   ·exact(ee.mem hoi f hf).2 k hk
  ·exact hbase k h
 refine k i' hi' w.heap.size _ _ S2 ⟨((st.ext.step0 hext).step hx2 hBin).step z1 (fun c hc=>z3.1.2 c hc),z2,?_,?_⟩
 ·refine ee.cons ⟨hd3,fun k hk=> .inl (by have h1:k=w.heap.size:=hk;rw [h1];exact hbl)⟩ (fun f hf k hk hfk=>?_) z3.2.2
  have h1:k=w.heap.size:=hk
  rcases hnew k ⟨f,oS _ hf,hfk⟩with h2|h2
  ·exact hnb k hk (.inl h2)
  ·omega
 ·refine⟨st.facts.size,?_,fun j t hj=>t.mono (SH.le_trans (SH.le_refl S) hle2) (st.facts.at_ j t hj)⟩
  show wJ w.heap.size::a.defers=_
  rw [st.facts.defers]
end

section
variable{R:Ending→World→Prop}{ds:List Deferred}
theorem xc(h:AT ⟨P,⟨N,[]⟩,B,w0,S0,none⟩ (bodyPost P fn R) .ret O G):AT ⟨P,⟨N,[]⟩,B,w0,S0,none⟩ (bodyPostM (fw none) 0 P fn R) .ret O G:=fun a w S st=>by
 obtain⟨h1,v,h2,h3⟩:=h a w S st
 show LeavesInM (fw none) 0 P fn a.tmps R a.defers .returning w
 rw [h1]
 exact⟨v,h2,h3⟩
theorem Cc(h:AT ⟨P,⟨N,ds⟩,B,w0,S0,none⟩ (bodyPostM (fw none) 0 P fn R) .ret O G):AT ⟨P,⟨N,wJ b::ds⟩,B,w0,S0,none⟩ (bodyPostM (fw none) 0 P fn R) .ret (G2 b::O) G:=fun a w S st=>by
 show LeavesInM (fw none) 0 P fn a.tmps R a.defers .returning w
 rw [st.facts.defers]
 obtain⟨hno,hb⟩:=st.own.1.1
 have hlt:=(sr.1 hb).1
 have hext:gW (fun k=>k=b) w S (w.putObj b (.deferred none)) S:=⟨rfl,rfl,rfl,gB _,by simp,fun k _ hk=>World.putObj_heap_other hk,SH.le_refl _,fun _ _ _=>rfl⟩
 have hsat:jp (w.putObj b (.deferred none)) S:=st.sat.same fun k o hk=>by
  have hne:k≠b:=fun e=>by subst e;rw [hno]at hk;cases hk
  exact World.putObj_heap_other hne
 have:=h {a with defers:=ds} (w.putObj b (.deferred none)) S ⟨st.ext.step hext (fun c hc=>st.own.1.2 c hc),hsat,st.own.2.2.ext hext (fun g hg k hk hkb=>st.own.2.1 g hg k hkb hk),⟨st.facts.size,rfl,st.facts.at_⟩⟩
 exact⟨by simp,.inl ⟨b,_,rfl,run_takeDeferred hb,this⟩⟩
end
theorem Iy{t:Ty}(hf:P.funcs[f]? =some fn)(hb:fn.body=some c)(hN:fn.ntmps=N)(hn:Nat.ble ts.length N=true)(h: ∀w0 S0,CG ⟨P,⟨N,[]⟩,qP,w0,S0,none⟩ (bodyPostM (fw none) 0 P fn (GG ⟨P,⟨N,[]⟩,qP,w0,S0,none⟩ t)) c [] (vY 0 ts)):bh P f ts t:=by
 subst hN
 intro w S vs hs hv
 exact nq.1 (callsIn_of_wp_marks (F:=fw none) (n:=0) hf hb trivial (h w S _ w S ⟨hY _ _ _,hs,trivial,ri hv _ (qc hn)⟩))

def rT(t:Ty):Rp Unit where
 sz:=1
 agg:=false
 rc:=fun S cs _=> ∃v,cs=[v]∧v.oneCell' =true∧t.p S v
 mono:=fun h ⟨v,e,k,l⟩=>⟨v,e,k,t.mono h l⟩
 len:=fun⟨_,e,_⟩=>by rw [e];rfl
 one:=fun⟨v,e,k,_⟩ c hc=>by rw [e]at hc;simp at hc;subst hc;exact k
 sc:=fun _=>rfl
theorem XQ{t:Ty}{u:Unit}{v:Value}:(tD (rT t) u).p S v↔v.oneCell' =true∧t.p S v:=by
 constructor
 ·rintro⟨cs,rfl,w,rfl,h1,h2⟩;exact⟨h1,h2⟩
 ·rintro⟨h1,h2⟩;exact⟨[v],rfl,v,rfl,h1,h2⟩
variable{k' :IntKind}{lo:Int}
section
variable{ty:TypeId}
theorem cO.imp{t u:Ty}(h:cO E O G o t)(k: ∀S v,t.p S v→u.p S v):cO E O G o u:=fun a w S hs ho hf=>
 nJ (fun _ _ ⟨v,S',h1,h2,h3,h4⟩=>⟨v,S',h1,h2,h3,k S' v h4⟩) (h a w S hs ho hf)
theorem KL{res:β→Ty}{f:α→Option β}(hx:aL E.N G x (iB E.P args res f)):cO E O G ⟨dst,.box T x,ty,pos,after,g⟩ (bF (rT (iB E.P args res f)) ()):=
 Jy (fun S a hf=>XQ.2 ⟨by obtain⟨_,_,e,_⟩:=hx S a hf;rw [e];rfl,hx S a hf⟩)
theorem C1{t:Ty}{p:Operand}(ti:TI E.P U 1 bytes false z)(hp:aL E.N G p (bF (rT t) ())):cO E O G ⟨dst,.load U p,ty,pos,after,g⟩ t:=
 (aF (r:=rT t) (x:=()) ti rfl rfl hp).imp fun _ _ h=>(XQ.1 h).2

theorem TD:rV.rc S [.slice none 0 0] (aD none 0 0):=⟨rfl,rfl⟩
theorem Bg{N:Fr}(h:aL N G x (tV (aD l cap n))):aL N G x (tD rV (aD l cap n)):=fun S a hf=>yX.2 ⟨h S a hf,by cases l<;>rfl⟩
theorem uZ{p:Operand}(ti:TI E.P U 1 bytes false z)(hm:bx rV T b (aD l cap n)∈O)(hp:aL E.N G p (tV (aN b 0))):
  cO E O G ⟨dst,.load U p,ty,pos,after,g⟩ (tV (aD l cap n)):=(bl (q:=rV) (get:=fun x=>x) ti rfl rfl bO hm hp).imp fun _ _ h=>(yX.1 h).1

def dw{α:Type}(xs:List α)(lo hi:Int):Option (List α):=if 0≤lo∧lo≤hi∧hi≤(xs.length:Int)then some ((xs.take hi.toNat).drop lo.toNat)else none
theorem fT(h:dw xs lo hi=some ys): ∃l m:Nat,lo=l∧hi=m∧l≤m∧m≤xs.length∧ys=(xs.take m).drop l:=by
 unfold dw at h
 split at h
 ·rename_i hc
  exact⟨lo.toNat,hi.toNat,by omega,by omega,by omega,by omega,by simpa using h.symm⟩
 ·cases h
theorem yg{a:Option Addr}{l m:Nat}(h:EI r S a xs)(hl:l≤m)(hm:m≤xs.length)(hc:xs.length≤cap):
  EI r S (if cap=l then a else a.map (·.add (l*r.sz))) ((xs.take m).drop l):=by
 by_cases hlm:l=m
 ·left;subst hlm;simp
 right
 rcases h with h|⟨b,off,c,T,fr,e1,e2,e3⟩
 ·subst h;simp at hm;omega
 subst e1
 have hne: ¬(cap=l):=by omega
 refine⟨b,off+l*r.sz,c,T,fr,?_,e2,?_⟩
 ·rw [bI hne];simp [Addr.add]
 have hlen:((xs.take m).drop l).length=m-l:=by simp;omega
 have e4:xs=(xs.take m).take l++((xs.take m).drop l++xs.drop m):=by
  rw [←mV,sS,sS]
 have h1:((xs.take m).take l).length=l:=by simp;omega
 rw [e4]at e3
 have h2:=(pV e3).2
 have h3:=(pV h2).1
 rw [h1]at h3
 rw [hlen]at h3 ⊢
 rw [←e4]at h3
 rw [AV,Bv,vd]at h3
 have hmin:min ((m-l)*r.sz) (xs.length*r.sz-l*r.sz)=(m-l)*r.sz:=by
  rw [←Nat.sub_mul];exact yK (yO _ (by omega))
 rwa [hmin]at h3
theorem lb{n:Int}{y:Nat}{code:BoundsCode}(h0:0≤n)(h1:n≤y):(Instr.sliceBound (.int k n) y code).run P w= .ok n.toNat w:=by
 simp [Instr.sliceBound,asIntOf,h0,h1]
theorem MH{lo hi:Operand}{i:Int}(ht:E.P.underlying t=some (.slice T))(ti:TI E.P T sz bytes agg z)(hsz:r.sz=sz)(hx:aL E.N G x (tD (eX r) xs))(hlo:aL E.N G lo (tD (rI k) i))(hhi:aL E.N G hi (tD (rI k') j))(h:dw xs i j=some ys):cO E O G ⟨dst,.slice t x (some lo) (some hi) none,ty,pos,after,g⟩ (tD (eX r) ys):=
 .of_pure fun a w S _ _ hf=>by
  subst hsz
  obtain⟨ad,cap,h1,h2,h3,h4⟩:=lS.1 (hx S a hf)
  have h5:=fg.1 (hlo S a hf)
  have h6:=fg.1 (hhi S a hf)
  obtain⟨l,m,rfl,rfl,h7,h8,rfl⟩:=fT h
  have hlen:((xs.take m).drop l).length=m-l:=by simp;omega
  refine⟨.slice (if cap=l then ad else ad.map (·.add (l*r.sz))) (m-l) (cap-l),?_,lS.2 ⟨_,cap-l,by rw [hlen],by omega,by omega,yg h4 h7 h8 h2⟩⟩
  simp [execOp,Instr.sliceAt,h1,h5,h6,Instr.slice,jr ht,Instr.sliceBounds,lb (k:=k') (n:=(m:Int)) (y:=cap) (by omega) (by omega),lb (k:=k) (n:=(l:Int)) (y:=m) (by omega) (by omega),ti.sizeOf]
theorem nc{hi:Operand}(ht:E.P.underlying t=some (.slice T))(ti:TI E.P T sz bytes agg z)(hsz:r.sz=sz)(hx:aL E.N G x (tD (eX r) xs))(hhi:aL E.N G hi (tD (rI k') j))(h:dw xs 0 j=some ys):cO E O G ⟨dst,.slice t x none (some hi) none,ty,pos,after,g⟩ (tD (eX r) ys):=
 .of_pure fun a w S _ _ hf=>by
  subst hsz
  obtain⟨ad,cap,h1,h2,h3,h4⟩:=lS.1 (hx S a hf)
  have h6:=fg.1 (hhi S a hf)
  obtain⟨l,m,hl,rfl,h7,h8,rfl⟩:=fT h
  have hl0:l=0:=by omega
  subst hl0
  have hlen:((xs.take m).drop 0).length=m-0:=by simp;omega
  refine⟨.slice (if cap=0 then ad else ad.map (·.add (0*r.sz))) (m-0) (cap-0),?_,lS.2 ⟨_,cap-0,by rw [hlen],by omega,by omega,yg h4 h7 h8 h2⟩⟩
  simp [execOp,Instr.sliceAt,h1,h6,Instr.slice,jr ht,Instr.sliceBounds,lb (k:=k') (n:=(m:Int)) (y:=cap) (by omega) (by omega),ti.sizeOf]
end
theorem pr{id:Nat}(m:Nat)(hm:E.P.follows .mixedOrders=true)(hsl:vp E.N.n [] (L.take m)=true)(hlen:ts.length=(L.take m).length)(ht:xF L (L.take m).length (L.drop m).length=true)(hd:DR E O G L ts 0 (L.take m))(k:RG E L.toArray Q (L.drop m) O (Jv (L.take m) ts G)):CG E Q (.region id L.toArray true) O G:=PG (sS m L).symm hm hsl hlen ht hd k

def pf(P:Program){α:Type} [DecidableEq α](t:TypeId)(r:Rp α)(n:Nat):Prop:=
 ∀(S:SH) (cs ds:List Value) (x y:α) (d:Nat) (w:World),r.rc S cs x→r.rc S ds y→(Op.equalIn (d+n) t (r.val cs) (r.val ds)).run P w= .ok (decide (x=y)) w
theorem zD(h:P.underlying t=some (.int k')):pf P t (rI k) (n+1):=fun S cs ds x y d w hx hy=>by
 have h1:cs=[.int k x]:=hx
 have h2:ds=[.int k y]:=hy
 subst h1 h2
 have:(Op.equalIn (d+n+1) t (.int k x) (.int k y)).run P w= .ok (x==y) w:=by simp [Op.equalIn,jr h]
 have e:(x==y)=decide (x=y):=by by_cases h:x=y<;>simp [h]
 rw [e]at this
 exact this
theorem O9(h:P.underlying t=some .bool):pf P t rB (n+1):=fun S cs ds x y d w hx hy=>by
 have h1:cs=[.bool x]:=hx
 have h2:ds=[.bool y]:=hy
 subst h1 h2
 have:=run_equalIn_bool' (P:=P) w (d+n) t x y h
 simp only [Rp.val,rB,List.headD_cons,uK,qa]
 rw [show d+(n+1)=d+n+1 from rfl,this]
 cases x<;>cases y<;>rfl
theorem R4(h:P.underlying t=some .string):pf P t rS (n+1):=fun S cs ds x y d w hx hy=>by
 have h1:cs=[.string ⟨x.toArray⟩]:=hx
 have h2:ds=[.string ⟨y.toArray⟩]:=hy
 subst h1 h2
 have:=run_equalIn_string (P:=P) w (d+n) t ⟨x.toArray⟩ ⟨y.toArray⟩ h
 simp only [Rp.val,rS,List.headD_cons,uK,qa]
 rw [show d+(n+1)=d+n+1 from rfl,this]
 simp only [ByteArray.toList_eq]
 by_cases e:x=y<;>simp [e]
abbrev Fd:=TypeId×Nat×Bool
def JS(f:Field):Fd:=(f.type,f.offset,f.name== "_")
def Na(d:Nat)(xs ys:Array Value):List Fd→Sem Bool
 |[]=>pure true
 |f::fs=>
  if f.2.2=false then do
   let a←part f.1 xs f.2.1
   let b←part f.1 ys f.2.1
   let r←Op.equalIn d f.1 a b
   if(!r)=true then pure false else Na d xs ys fs
  else Na d xs ys fs
theorem Ij(d:Nat)(xs ys:Array Value): ∀fs:List Field,Op.eqFields d xs ys fs=Na d xs ys (fs.map JS)
 |[]=>rfl
 |f::fs=>by
  unfold Op.eqFields Na
  rw [Ij d xs ys fs]
  by_cases h:f.name= "_"
  ·have e:((JS f).2.2=false)=False:=by simp [JS,h]
   simp only [xC,e,qa]
   rw [bI (by simpa using h)]
  ·have e:((JS f).2.2=false)=True:=by simp [JS,h]
   simp only [xC,e,nt]
   rw [bQ (by simpa using h)]
   rfl
def LS(P:Program){α:Type}(r:Rp α)(n:Nat)(fs:List Fd)(c:α→α→Bool):Prop:=
 ∀(S:SH) (cs ds:List Value) (x y:α) (d:Nat) (w:World),r.rc S cs x→r.rc S ds y→(Na (d+n) cs.toArray ds.toArray fs).run P w= .ok (c x y) w
theorem LS.nil:LS P r n [] (fun _ _=>true):=fun _ _ _ _ _ _ _ _ _=>rfl
theorem sx(ti:TI P t sz bytes agg z)(hsz:q.sz=sz)(hag:q.agg=agg)(hf:lQ r off q get){cs:List Value}{x:α}(hx:r.rc S cs x)(w:World):
  (part t cs.toArray off).run P w= .ok (q.val ((cs.drop off).take q.sz)) w:=by
 have h:=hf S cs x hx
 have hl:=q.len h
 subst hsz hag
 unfold part
 by_cases ha:q.agg=true
 ·have e1:=ti.isAgg w
  simp only [r0,e1,ha,sq,nt,ti.sizeOf,AS]
  unfold Rp.val
  rw [bQ ha]
  congr 2
  apply Array.ext'
  simp
 ·rw [yL]at ha
  have e1:=ti.isAgg w
  have hs1:=q.sc ha
  simp only [r0,e1,ha,sq,uK,qa]
  rw [hs1]at hl ⊢
  obtain⟨v,hv⟩:=List.length_eq_one_iff.1 hl
  have hc:cs[off]? =some v:=by
   have:((cs.drop off).take 1)[0]? =some v:=by rw [hv];rfl
   rw [Ac (by omega),wh]at this
   simpa using this
  unfold Rp.val
  rw [hv,ha]
  simp [hc]
theorem LS.cons [DecidableEq β]{t:Nat}{fs:List Fd}{c:α→α→Bool}(ti:TI P t sz bytes agg z)(hsz:q.sz=sz)(hag:q.agg=agg)(hf:lQ r off q get)(he:pf P t q n)(hr:LS P r n fs c):
  LS P r n ((t,off,false)::fs) (fun x y=>decide (get x=get y)&&c x y):=fun S cs ds x y d w hx hy=>by
 have h1:=sx ti hsz hag hf hx w
 have h2:=sx ti hsz hag hf hy w
 have h3:=he S _ _ _ _ d w (hf S cs x hx) (hf S ds y hy)
 unfold Na
 simp only [nt,r0,h1,h2,h3,sq]
 by_cases e:get x=get y
 ·simp only [e,decide_true,tF,uK,qa,nQ]
  exact hr S cs ds x y d w hx hy
 ·simp [e]
theorem Dp [DecidableEq α]{t:Nat}{fs:List Fd}{c:α→α→Bool}(ht:(P.underlying t).map (fun d=>match d with| .struct l=>(true,l.toList.map JS)|_=>(false,[]))=some (true,fs))(hp:P.stoodInHeld t=false)(ha:r.agg=true)(hr:LS P r n fs c)(hc: ∀x y,c x y=decide (x=y)):pf P t r (n+1):=fun S cs ds x y d w hx hy=>by
 obtain⟨l,h1,h2⟩: ∃l,P.underlying t=some (.struct l)∧l.toList.map JS=fs:=by
  cases hu:P.underlying t with
  |none=>rw [hu]at ht;cases ht
  |some d=>
   rw [hu]at ht
   cases d<;>simp at ht
   exact⟨_,rfl,ht⟩
 have hfo:P.fieldsOf t=l:=by unfold Program.fieldsOf;rw [h1]
 have:=run_equalIn_struct (P:=P) w (d+n) t cs.toArray ds.toArray (by rw [hfo];exact h1) hp
 rw [ss ha,ss ha,show d+(n+1)=d+n+1 from rfl,this,hfo,Ij,h2,hr S cs ds x y d w hx hy,hc]
theorem qO [DecidableEq α](h:pf P t r n)(m:Nat):pf P t r (m+n):=fun S cs ds x y d w hx hy=>by
 have:=h S cs ds x y (d+m) w hx hy
 rwa [Nat.add_assoc]at this
theorem PE.of [DecidableEq α](hg:P.eqGuardType P.depth t=false)(h:pf P t r 20):PE P t r:=⟨hg,fun S cs ds x y d w hx hy=>h S cs ds x y d w hx hy⟩

theorem dg{l:List α}{e:α}(h:xs.drop i=e::l):decide ((i:Int)<(xs.length:Int))=true:=by
 have:i<xs.length:=by
  rcases m2 i xs.length with h' |h'
  ·exact h'
  ·rw [G5 h']at h;cases h
 simp;omega
theorem dh(h:xs.drop i=[]):decide ((i:Int)<(xs.length:Int))=false:=by
 have:=EB.1 h
 simp;omega
theorem cw{l:List α}{e:α}(h:xs.drop i=e::l):xs.drop (i+1)=l:=by
 rw [←vd,h];rfl
theorem dl{l:List α}{e:α}(h:xs.drop i=e::l):dC xs (i:Int)=some e:=by
 rw [cK]
 have:=wh (xs:=xs) (i:=i) (j:=0)
 rw [h]at this
 simpa using this.symm
theorem cx{l:List α}{e:α}(h:xs.drop i=e::l)(hN:xs.length≤maxLen):i<9223372036854775807:=by
 have:=of_decide_eq_true (dg h)
 simp only [maxLen]at hN
 omega
theorem TJ{k:Nat}(h:N-i=k+1):decide ((i:Int)<(N:Int))=true:=by simp;omega
theorem TK(h:N-i=0):decide ((i:Int)<(N:Int))=false:=by simp;omega
theorem Qq{k:Nat}(h:N-i=k+1):N-(i+1)=k:=by omega
theorem Qr{k:Nat}(h:N-i=k+1)(hN:N≤9223372036854775807):i<9223372036854775807:=by omega
theorem TM(h:n≤maxLen):n≤9223372036854775807:=by simp only [maxLen]at h;omega
variable{ix:Operand}{zs:List α}
section
variable{e:Exit}
section
variable{ty:TypeId}
theorem zk{one:Operand}{xt yt:TypeId}(hi:i<9223372036854775807)(hx:aL E.N G x (tD (rI .i64) (i:Int)))(h1:aL E.N G one (tD (rI .i64) 1)):
  cO E O G ⟨dst,.binOp .add xt x one yt,ty,pos,after,g⟩ (tD (rI .i64) ((i+1:Nat):Int)):=by
 have e:IntKind.i64.wrap ((i:Int)+1)=((i+1:Nat):Int):=by
  rw [D0];omega
 have:=fm (E:=E) (O:=O) (dst:=dst) (ty:=ty) (pos:=pos) (after:=after) (g:=g) (xt:=xt) (yt:=yt) hx h1
 rwa [e]at this
end
theorem jI(hm:md mm r T l cap xs∈O)(h:xs.length≤maxLen→CG E Q c O G):CG E Q c O G:=fun a w S st=>by
 refine h ?_ a w S st
 obtain⟨cells,h1,_⟩:=(st.own.mem _ hm).1
 cases l with
 |none=>have:=h1.1;omega
 |some b=>obtain⟨cur,_,g2,g3,_⟩:=h1;exact nu g2 g3
theorem St.dataAt{k:Nat}(h:St E O G a w S)(hk:look G k=some (tO r l cap xs)):St E O ((k,tD (eX r) xs)::G) a w S:=h.cons (h.facts.at_ k _ hk).2
theorem Nx(k:Nat)(hk:look G k=some (tO r l cap xs))(h:CG E Q c O ((k,tD (eX r) xs)::G)):CG E Q c O G:=fun a w S st=>h a w S (st.dataAt hk)
theorem mT(k:Nat)(hk:look G k=some (tO r l cap xs))(h:AT E Q e O ((k,tD (eX r) xs)::G)):AT E Q e O G:=fun a w S st=>h a w S (st.dataAt hk)
def kz(l:Option Nat)(off:Nat):Value:=
 match l with
 |none=> .pointer none
 |some b=>aN b off
theorem qA(h:zM mm r T l cap xs w S){e:α}(hi:xs[i]? =some e):
  ∃b cur,l=some b∧w.heap[b]? =some (.cells cur T (0,0))∧xs.length≤cap∧cur.size=cap*r.sz∧r.rc S ((cur.toList.drop (i*r.sz)).take r.sz) e:=by
 obtain⟨cells,h1,h2,_⟩:=h
 have hlt:=(pc.1 hi).1
 cases l with
 |none=>have:=h1.1;omega
 |some b=>
  obtain⟨cur,g1,g2,g3,g4,g5⟩:=h1
  refine⟨b,cur,rfl,g1,g2,g4,?_⟩
  have h3:=BW h2 hi
  rw [←g5,AV,Bv]at h3
  have h4:i*r.sz+r.sz≤xs.length*r.sz:=by
   rw [←Nat.succ_mul];exact yO _ hlt
  rwa [yK (by omega)]at h3
theorem lw{i:Int}{e:α}(h:dC xs i=some e):0≤i∧xs[i.toNat]? =some e:=by
 unfold dC at h
 split at h
 ·exact⟨by assumption,h⟩
 ·cases h
section
variable{ty:TypeId}
theorem bT{e:TypeId}{i:Int}(ht:E.P.underlying t=some (.slice e))(ti:TI E.P e sz bytes agg z)(hm:md mm r U l cap xs∈O)(hx:aL E.N G x (tV (aD l cap n)))(hi:aL E.N G ix (tD (rI k) i))(hy:dC xs i=some y)(hn:n=xs.length:=by rfl):
  cO E O G ⟨dst,.indexAddr t x ix,ty,pos,after,g⟩ (tV (kz l (i.toNat*sz+0))):=
 .of_pure fun a w S _ ho hf=>by
  subst hn
  have h1:a.eval x=aD l cap xs.length:=hx S a hf
  have h3:a.eval ix= .int k i:=fg.1 (hi S a hf)
  obtain⟨h0,hy'⟩:=lw hy
  obtain⟨b,cur,rfl,_⟩:=qA (ho.mem _ hm).1 hy'
  have hlt:i.toNat<xs.length:=(pc.1 hy').1
  refine⟨_,?_,rfl⟩
  have hc:0≤i∧i<(xs.length:Int):=⟨h0,by omega⟩
  simp [execOp,h1,h3,aD,Instr.indexAt,asIntOf,jr ht,hc,ti.sizeOf,iV,kz,aN]
theorem dj{foff:Nat}{i:Int}{p:Operand}(ti:TI E.P T sz bytes agg z)(hsz:q.sz=sz)(hag:q.agg=agg)(hget:lQ r foff q get)(hoff:Nat.ble (foff+q.sz) r.sz=true)(hm:md mm r U l cap xs∈O)(hy:dC xs i=some y)(hp:aL E.N G p (tV (kz l (i.toNat*r.sz+foff)))):cO E O G ⟨dst,.load T p,ty,pos,after,g⟩ (tD q (get y)):=
 .of_pure fun a w S _ ho hf=>by
  have h1:a.eval p=kz l (i.toNat*r.sz+foff):=hp S a hf
  obtain⟨h0,hy'⟩:=lw hy
  obtain⟨b,cur,rfl,hb,_,_,h6⟩:=qA (ho.mem _ hm).1 hy'
  have hoff' :=qc hoff
  have h7:=hget S _ _ h6
  rw [AV,Bv,vd,yK (by omega)]at h7
  refine⟨_,?_,_,rfl,h7⟩
  simp [execOp,h1,kz,aN,Instr.loadAt,Instr.sureAddr,mC ti hb hsz hag h7]
theorem Ej{o:Nat}{p:Operand}(hf:cG E.P T i=some (off,sz))(h0:Nat.beq sz 0=false)(hm:md mm r U l cap xs∈O)(hy:dC xs j=some y)(hp:aL E.N G p (tV (kz l o))):
  cO E O G ⟨dst,.fieldAddr T p i,ty,pos,after,g⟩ (tV (kz l (o+off))):=
 .of_pure fun a w S _ ho hF=>by
  have h1:a.eval p=kz l o:=hp S a hF
  obtain⟨_,hy'⟩:=lw hy
  obtain⟨b,cur,rfl,_⟩:=qA (ho.mem _ hm).1 hy'
  obtain⟨fs,f,e1,e2,e3,e4⟩:=Am hf
  have h0' :sz≠0:=fun e=>by subst e;simp at h0
  refine⟨_,?_,rfl⟩
  simp [execOp,h1,kz,aN,Instr.fieldAt,jr e1,e2,Instr.sureAddr,fieldPlace,e4,h0',e3,iV]
end
theorem BV{α:Type}{r:Rp α}{S:SH}{y:α}{c:List Value}(hc:r.rc S c y): ∀{xs:List α} {i:Nat} {cs:List Value},si r S cs xs→i<xs.length→si r S (cs.take (i*r.sz)++c++cs.drop (i*r.sz+r.sz)) (xs.set i y)
 |[],_,_,_,h=>by simp at h
 |x::xs,0,cs,⟨a,b,e,h1,h2⟩,_=>by
  have hl:=r.len h1
  refine⟨c,b,?_,hc,h2⟩
  rw [e,←hl];simp
 |x::xs,i+1,cs,⟨a,b,e,h1,h2⟩,h=>by
  have hl:=r.len h1
  have ih:=BV hc h2 (i:=i) (by simpa using h)
  refine⟨a,_,?_,h1,ih⟩
  have e1:(i+1)*r.sz=a.length+i*r.sz:=by rw [hl,wd];omega
  rw [e,e1,List.take_length_add_append,Nat.add_assoc,List.drop_length_add_append]
  simp
theorem lP{set:α→β→α}{foff:Nat}{v:β}{i:Int}{p:Operand}{ty:TypeId}(ti:TI E.P T sz bytes agg z)(hsz:q.sz=sz)(hset:gP r foff q set)(hoff:Nat.ble (foff+q.sz) r.sz=true)(hy:dC xs i=some y)(hz:xs.set i.toNat (set y v)=zs)(hp:aL E.N G p (tV (kz l (i.toNat*r.sz+foff))))(hx:aL E.N G x (tD q v))(k:RG E ops Q rest (cY r U l cap zs::O) G):
  RG E ops Q (⟨none,.store T p x,ty,pos,after,none⟩::rest) (cY r U l cap xs::O) G:= .of rfl fun a w S st=>by
 subst hz
 have h1:a.eval p=kz l (i.toNat*r.sz+foff):=hp S a st.facts
 obtain⟨ds,h2,h3⟩:=hx S a st.facts
 obtain⟨h0,hy'⟩:=lw hy
 have hlt:i.toNat<xs.length:=(pc.1 hy').1
 obtain⟨cells,hraw,hrc,hno⟩:=st.own.1.1
 obtain⟨b,cur,rfl,hb,hle,hcs,h6⟩:=qA st.own.1.1 hy'
 obtain⟨cur',hb',hle',hmax,hcs',hct⟩:=hraw
 have hcc:cur' =cur:=by rw [hb]at hb';injection hb' with e;injection e with e1;exact e1.symm
 subst hcc
 have hno' :S b=none:=hno b rfl
 have hoff' :=qc hoff
 have hl3:=q.len h3
 have hmul:i.toNat*r.sz+r.sz≤xs.length*r.sz:=by rw [←Nat.succ_mul];exact yO _ hlt
 have hmul2:xs.length*r.sz≤cur'.size:=by rw [hcs];exact yO _ hle
 obtain⟨w',hr,e1,e2,e3,e4,e5,e6⟩:=ke ti hsz h3 hb (off:=i.toNat*r.sz+foff) (by omega)
 have hrun:(execOp a.eval ⟨none,.store T p x,ty,pos,after,none⟩).run E.P w= .ok .skip w' :=by
  simp [execOp,h1,h2,Instr.storeAt,kz,aN,Instr.sureAddr,hr]
 refine⟨fun c h=>(by cases h),?_⟩
 rw [hrun]
 have hnew:=hset S _ _ _ _ h6 h3
 have hrc' :=BV hnew hrc hlt
 have hcl:=lW hrc
 have hcells:(cur'.toList.take (i.toNat*r.sz+foff)++ds++cur'.toList.drop (i.toNat*r.sz+foff+q.sz)).take (xs.length*r.sz)=
   cells.take (i.toNat*r.sz)++(((cur'.toList.drop (i.toNat*r.sz)).take r.sz).take foff++ds++((cur'.toList.drop (i.toNat*r.sz)).take r.sz).drop (foff+q.sz))++cells.drop (i.toNat*r.sz+r.sz):=by
  subst hct
  apply G8
  intro j
  simp only [List.getElem?_take,List.getElem?_append,wh,Bx,yR,mt,FB]
  rcases m2 j (xs.length*r.sz)with hj|hj
  ·simp only [hj,nt]
   rcases m2 j (i.toNat*r.sz)with hj1|hj1
   ·rw [bQ (by omega),bQ (by omega),bQ (by omega),bQ (by omega),bQ (by omega),bQ (by omega)]
   ·rcases m2 j (i.toNat*r.sz+foff)with hj2|hj2
    ·rw [bQ (by omega),bQ (by omega),bQ (by omega),bQ (by omega),bI (by omega),bQ (by omega),bQ (by omega),bQ (by omega),bQ (by omega)]
     congr 1;omega
    ·rcases m2 j (i.toNat*r.sz+foff+q.sz)with hj3|hj3
     ·rw [bQ (by omega),bI (by omega),bQ (by omega),bI (by omega),bQ (by omega),bI (by omega)]
      congr 1;omega
     ·rw [bI (by omega)]
      rcases m2 j (i.toNat*r.sz+r.sz)with hj4|hj4
      ·rw [bQ (by omega),bI (by omega),bI (by omega),bQ (by omega)]
       congr 1;omega
      ·rw [bI (by omega),bQ (by omega)]
       congr 1;omega
  ·rw [bI (by omega),bI (by omega),bI (by omega)]
 obtain⟨g1,g2,g3⟩:=nI (O:=O) st.sat (cY r U (some b) cap xs) (cY r U (some b) cap (xs.set i.toNat (set y v))) st.own (fun k=>⟨fun h=>(od h).symm,fun h=>by rw [h];rfl⟩) (fun k=>⟨fun h=>(od h).symm,fun h=>by rw [h];rfl⟩) ⟨e1,e2,e3,e4.1,e4.2⟩ e6
  ⟨_,⟨_,e5,by rw [Aa];exact hle,hmax,by simp only [Cj,mt,Bx,yR,FB];omega,by rw [Aa];exact hcells⟩,hrc',fun k hk=>by rw [←od hk];exact hno'⟩ hno'
 exact k _ _ S ⟨st.ext.step g1 (fun c hc=>st.own.1.2 c (by rw [hc];rfl)),g2,g3,st.facts⟩

def nR(sz:Nat)(l:Option Nat)(cap lo n:Nat):Value:=
 match l with
 |none=> .slice none 0 0
 |some b=> .slice (some ⟨b,if cap=lo then 0 else lo*sz,none⟩) n (cap-lo)
section
variable{ty:TypeId}
theorem ES(h:zM mm r U l cap xs w S): ∃ad c,aD l cap xs.length= .slice ad xs.length c∧xs.length≤c∧ad=l.map (fun b=>⟨b,0,none⟩)∧(l=none→c=0∧xs=[])∧(l≠none→c=cap):=by
 obtain⟨cells,h1,_⟩:=h
 cases l with
 |none=>
  have hx:xs=[]:=uL h1.1
  subst hx
  exact⟨none,0,rfl,gB _,rfl,fun _=>⟨rfl,rfl⟩,fun h=>absurd rfl h⟩
 |some b=>
  obtain⟨cur,_,g2,_⟩:=h1
  exact⟨_,cap,rfl,g2,rfl,fun h=>(by cases h),fun _=>rfl⟩
theorem oE{hi:Operand}(ht:E.P.underlying t=some (.slice T))(ti:TI E.P T sz bytes agg z)(hsz:r.sz=sz)(hm:md mm r U l cap xs∈O)(hx:aL E.N G x (tV (aD l cap n)))(hhi:aL E.N G hi (tD (rI k') j))(h:dw xs 0 j=some ys)(hn:n=xs.length:=by rfl):cO E O G ⟨dst,.slice t x none (some hi) none,ty,pos,after,g⟩ (tV (aD l cap ys.length)):=
 .of_pure fun a w S _ ho hf=>by
  subst hsz
  subst hn
  have h1:a.eval x=aD l cap xs.length:=hx S a hf
  obtain⟨ad,c,h2,h3,h4,h5,h5'⟩:=ES (ho.mem _ hm).1
  have h6:=fg.1 (hhi S a hf)
  obtain⟨lo,m,hl,rfl,h7,h8,rfl⟩:=fT h
  have hl0:lo=0:=by omega
  subst hl0
  have hlen:((xs.take m).drop 0).length=m:=by simp;omega
  refine⟨_,?_,rfl⟩
  rw [h2]at h1
  have hr:(execOp a.eval ⟨dst,.slice t x none (some hi) none,ty,pos,after,g⟩).run E.P w= .ok (.value (.slice ad m c)) w:=by
   simp [execOp,Instr.sliceAt,h1,h6,Instr.slice,jr ht,Instr.sliceBounds,lb (k:=k') (n:=(m:Int)) (y:=c) (by omega) (by omega),ti.sizeOf]
   cases ad<;>simp [Addr.add]
  rw [hr,hlen,h4]
  cases l with
  |none=>
   obtain⟨rfl,rfl⟩:=h5 rfl
   have:m=0:=by simpa using h8
   subst this;rfl
  |some b=>rw [h5' (by simp)];rfl
theorem pY{lo:Operand}{i:Int}(ht:E.P.underlying t=some (.slice T))(ti:TI E.P T sz bytes agg z)(hsz:r.sz=sz)(hm:md mm r U l cap xs∈O)(hx:aL E.N G x (tV (aD l cap n)))(hlo:aL E.N G lo (tD (rI k) i))(h:dw xs i (xs.length:Int)=some ys)(hn:n=xs.length:=by rfl):cO E O G ⟨dst,.slice t x (some lo) none none,ty,pos,after,g⟩ (tV (nR sz l cap i.toNat ys.length)):=
 .of_pure fun a w S _ ho hf=>by
  subst hsz
  subst hn
  have h1:a.eval x=aD l cap xs.length:=hx S a hf
  obtain⟨ad,c,h2,h3,h4,h5,h5'⟩:=ES (ho.mem _ hm).1
  have h6:=fg.1 (hlo S a hf)
  obtain⟨lo',m,rfl,hm',h7,h8,rfl⟩:=fT h
  have hm2:m=xs.length:=by omega
  subst hm2
  have hlen:((xs.take xs.length).drop lo').length=xs.length-lo' :=by simp
  refine⟨_,?_,rfl⟩
  rw [h2]at h1
  have hr:(execOp a.eval ⟨dst,.slice t x (some lo) none none,ty,pos,after,g⟩).run E.P w= .ok (.value (.slice (if c=lo' then ad else ad.map (·.add (lo' *r.sz))) (xs.length-lo') (c-lo'))) w:=by
   simp [execOp,Instr.sliceAt,h1,h6,Instr.slice,jr ht,Instr.sliceBounds,lb (k:=k) (n:=(lo' :Int)) (y:=xs.length) (by omega) (by omega),ti.sizeOf]
  rw [hr,hlen,h4]
  cases l with
  |none=>
   obtain⟨rfl,rfl⟩:=h5 rfl
   have:lo' =0:=by simpa using h7
   subst this;rfl
  |some b=>
   rw [h5' (by simp)]
   unfold nR
   simp only [Ab,Ch,iV,pj]
   split<;>rfl
theorem yf{i:Int}(h:dw xs lo hi=some ys)(hy:dC ys i=some y):dC xs (lo+i)=some y∧0≤lo∧0≤i:=by
 obtain⟨l,m,rfl,rfl,h1,h2,rfl⟩:=fT h
 obtain⟨h0,h3⟩:=lw hy
 refine⟨?_,by omega,h0⟩
 obtain⟨j,rfl⟩: ∃j:Nat,i=j:=⟨i.toNat,by omega⟩
 rw [show((l:Int)+(j:Int))=((l+j:Nat):Int)from by omega,cK]
 rw [wh,Ab]at h3
 have hlt:l+j<m:=by
  have:=(pc.1 h3).1
  simp at this;omega
 rwa [Ac hlt]at h3
theorem xN{e:TypeId}{i:Int}(ht:E.P.underlying t=some (.slice e))(ti:TI E.P e sz bytes agg z)(hsz:r.sz=sz)(hm:md mm r U l cap xs∈O)(hs:dw xs lo hi=some ys)(hx:aL E.N G x (tV (nR sz l cap lo.toNat ys.length)))(hi' :aL E.N G ix (tD (rI k) i))(hy:dC ys i=some y):
  cO E O G ⟨dst,.indexAddr t x ix,ty,pos,after,g⟩ (tV (kz l ((lo+i).toNat*sz+0))):=
 .of_pure fun a w S _ ho hf=>by
  subst hsz
  have h1:a.eval x=nR r.sz l cap lo.toNat ys.length:=hx S a hf
  have h3:a.eval ix= .int k i:=fg.1 (hi' S a hf)
  obtain⟨hxi,hl0,hi0⟩:=yf hs hy
  obtain⟨_,hx'⟩:=lw hxi
  obtain⟨b,cur,rfl,_,hle,_⟩:=qA (ho.mem _ hm).1 hx'
  have hlt:i.toNat<ys.length:=(pc.1 (lw hy).2).1
  have hlt2:(lo+i).toNat<xs.length:=(pc.1 hx').1
  have hne: ¬(cap=lo.toNat):=by omega
  refine⟨_,?_,rfl⟩
  have hc:0≤i∧i<(ys.length:Int):=⟨hi0,by omega⟩
  have e1:(lo+i).toNat=lo.toNat+i.toNat:=by omega
  simp [execOp,h1,h3,nR,hne,Instr.indexAt,asIntOf,jr ht,hc,ti.sizeOf,iV,kz,aN,e1,wd]
theorem KJ{e:TypeId}(ht:E.P.underlying t=some (.slice e))(hm:md mm r U l cap xs∈O)(hs:dw xs lo hi=some ys)(hx:aL E.N G x (tV (nR sz l cap lo.toNat ys.length))):
  cO E O G ⟨dst,.call ⟨.builtin .len,#[x],#[t]⟩,ty,pos,after,g⟩ (tD (rI .i64) (ys.length:Int)):=
 .of_pure fun a w S _ ho hf=>by
  have h1:a.eval x=nR sz l cap lo.toNat ys.length:=hx S a hf
  obtain⟨ad,c,h3⟩: ∃ad c,nR sz l cap lo.toNat ys.length= .slice ad ys.length c:=by
   cases l with
   |none=>
    obtain⟨_,h2,_⟩:=(ho.mem _ hm).1
    have hx0:xs=[]:=uL h2.1
    subst hx0
    obtain⟨l',m,_,_,_,h8,rfl⟩:=fT hs
    exact⟨none,0,by simp [nR]⟩
   |some b=>exact⟨_,_,rfl⟩
  refine⟨.int .i64 ys.length,?_,fg.2 rfl⟩
  simp [execOp,resolve,invoke,builtin,Builtin.len_,jr ht,h1,h3,goInt]
end
theorem LF(h:dw xs 0 j=some ys)(k:zM false r U l cap xs w S):zM false r U l cap ys w S:=by
 obtain⟨lo,m,hl,rfl,h7,h8,rfl⟩:=fT h
 have hl0:lo=0:=by omega
 subst hl0
 obtain⟨cells,h1,h2,h3⟩:=k
 have hlen:((xs.take m).drop 0).length=m:=by simp;omega
 have h4:si r S (cells.take (m*r.sz)) (xs.take m):=by
  have e:xs=xs.take m++xs.drop m:=(sS _ _).symm
  rw [e]at h2
  have:=(pV h2).1
  rwa [show(xs.take m).length=m from by simp;omega]at this
 refine⟨cells.take (m*r.sz),?_,by simpa using h4,fun b hb=>h3 b hb⟩
 rw [hlen]
 cases l with
 |none=>
  obtain⟨g1,g2⟩:=h1
  exact⟨by omega,by rw [g2];simp⟩
 |some b=>
  obtain⟨cur,g1,g2,g3,g4,g5⟩:=h1
  exact⟨cur,g1,by omega,g3,g4,by rw [←g5,Bv,yK (yO _ h8)]⟩
theorem St.cut(h:dw xs 0 j=some ys)(st:St E (cY r U l cap xs::O) G a w S):St E (cY r U l cap ys::O) G a w S:=
 st.own_map fun ho=>⟨⟨LF h ho.1.1,ho.1.2⟩,ho.2.1,ho.2.2⟩
theorem DF(h:dw xs 0 j=some ys)(k:RG E ops Q rest (cY r U l cap ys::O) G):RG E ops Q rest (cY r U l cap xs::O) G:=fun a w S st=>k a w S (st.cut h)
theorem AT.cut(h:dw xs 0 j=some ys)(k:AT E Q e (cY r U l cap ys::O) G):AT E Q e (cY r U l cap xs::O) G:=fun a w S st=>k a w S (st.cut h)
theorem LG.cut(h:dw xs 0 j=some ys)(k:LG E Q c (cY r U l cap ys::O) G):LG E Q c (cY r U l cap xs::O) G:=fun a w S st=>k a w S (st.cut h)
end

variable{x0 x4 x5:OE}
section
variable{e:Exit}
theorem DG{O:List OE}(h:ee base B w S (x0::x1::x2::x3::x4::x5::O)):ee base B w S (x5::x0::x1::x2::x3::x4::O):=
 (zR h vR (fun f hf=>by simp only [kp]at hf ⊢;rcases hf with h|h|h|h|h|h<;>simp [h])).swap
theorem Fu(h:RG E ops Q rest (x5::x0::x1::x2::x3::x4::O) G):RG E ops Q rest (x0::x1::x2::x3::x4::x5::O) G:=fun a w S st=>h a w S (st.own_map DG)
theorem nO(h:AT E Q e (x5::x0::x1::x2::x3::x4::O) G):AT E Q e (x0::x1::x2::x3::x4::x5::O) G:=fun a w S st=>h a w S (st.own_map DG)
end

theorem iq(h:xs.set i y=zs):zs.length=xs.length:=by rw [←h,Aa]
section
theorem jw{m:Nat}(hl:m=n)(s:Nat)(hs:look G s=some (tV (aD l cap n)))(k:RG E ops Q rest O ((s,tV (aD l cap m))::G)):RG E ops Q rest O G:=by
 subst hl
 exact fun a w S st=>k a w S (st.cons (st.facts.at_ s _ hs))
end

theorem gw{o1 o2:Nat}{g1:α→β}{g2:β→γ}(h1:lQ r o1 q g1)(h2:lQ q o2 s g2)(hb:Nat.ble (o2+s.sz) q.sz=true:=by rfl):lQ r (o1+o2) s (fun x=>g2 (g1 x)):=fun S cs x h=>by
 have h3:=h2 S _ _ (h1 S cs x h)
 have hb' :=qc hb
 rwa [AV,Bv,vd,yK (by omega)]at h3
theorem Mj{o1 o2:Nat}{g1:α→β}{u1:α→β→α}{u2:β→γ→β}(h1:lQ r o1 q g1)(k1:gP r o1 q u1)(k2:gP q o2 s u2)(hb:Nat.ble (o2+s.sz) q.sz=true:=by rfl)(hc:Nat.ble (o1+q.sz) r.sz=true:=by rfl):
  gP r (o1+o2) s (fun x y=>u1 x (u2 (g1 x) y)):=fun S cs x ds y h hy=>by
 have hb' :=qc hb
 have hc' :=qc hc
 have hl:=r.len h
 have h3:=k1 S cs x _ _ h (k2 S _ _ ds y (h1 S cs x h) hy)
 have e:cs.take (o1+o2)++ds++cs.drop (o1+o2+s.sz)=cs.take o1++(((cs.drop o1).take q.sz).take o2++ds++((cs.drop o1).take q.sz).drop (o2+s.sz))++cs.drop (o1+q.sz):=by
  rw [Bv,yK (by omega),AV,vd,List.take_add,show o1+(o2+s.sz)=o1+o2+s.sz from by omega]
  simp only [mV]
  congr 3
  have e2:cs.drop (o1+q.sz)=(cs.drop (o1+o2+s.sz)).drop (q.sz-(o2+s.sz)):=by rw [vd];congr 1;omega
  rw [e2,sS]
 rw [e];exact h3

def jh(P:Program)(f:FuncId)(ts:List Ty)(O1:List OE){ι:Type}(t:ι→Ty)(O2:ι→List OE):Prop:=
 ∀w S vs,jp w S→vO S ts vs→ee 0 qP w S O1→Calls P f vs.toArray w fun en w' => ∃i v S',en= .returned v∧(t i).p S' v∧gW (fun k=> ∃f∈O1,f.fp k) w S w' S' ∧jp w' S' ∧ee 0 qP w' S' (O2 i)∧ ∀k,(∃f∈O2 i,f.fp k)→(∃f∈O1,f.fp k)∨w.heap.size≤k
def UE(E:En)(O1:List OE){ι:Type}(t:ι→Ty)(O2:ι→List OE):Ending→World→Prop:=fun en w' =>
 ∃i v S',en= .returned v∧(t i).p S' v∧gW E.B E.w0 E.S0 w' S' ∧jp w' S' ∧ee 0 qP w' S' (O2 i)∧ ∀k,(∃f∈O2 i,f.fp k)→(∃f∈O1,f.fp k)∨E.w0.heap.size≤k
def IW(O1:List OE):Nat→Prop:=fun k=> ∃f∈O1,f.fp k
theorem jh.of{t:ι→Ty}(hf:P.funcs[f]? =some fn)(hb:fn.body=some c)(hN:fn.ntmps=N)(hn:Nat.ble ts.length N=true)(h: ∀w0 S0,CG ⟨P,⟨N,[]⟩,IW O1,w0,S0,none⟩ (bodyPost P fn (UE ⟨P,⟨N,[]⟩,IW O1,w0,S0,none⟩ O1 t O2)) c O1 (vY 0 ts)):jh P f ts O1 t O2:=by
 subst hN
 intro w S vs hs hv ho
 exact nq.1 (callsIn_of_wp (F:=fw none) (n:=0) hf hb trivial (h w S _ w S ⟨hY _ _ _,hs,nN ho fun f hf k hk=> .inr ⟨f,hf,hk⟩,ri hv _ (qc hn)⟩))
theorem R7{t:ι→Ty}{v:Value}(st:St E O G a w S)(hB:E.B=IW O1)(i:ι)(hO:O=O2 i)(hv:(t i).p S v):UE E O1 t O2 (.returned v) w:=by
 subst hO
 refine⟨i,v,S,rfl,hv,st.ext,st.sat,st.own.weak,fun k ⟨f,hf,hk⟩=>?_⟩
 rcases(ee.mem st.own f hf).2 k hk with h|h
 ·exact .inr h
 ·rw [hB]at h;exact .inl h
section
variable{t:ι→Ty}
theorem eD{k:Nat}{u:Ty}(hr:fn.results= #[.tmp k])(i:ι)(hO:O=O2 i)(hk:look G k=some u)(hu: ∀S v,u.p S v→(t i).p S v):
  AT ⟨P,⟨N,[]⟩,IW O1,w0,S0,none⟩ (bodyPost P fn (UE ⟨P,⟨N,[]⟩,IW O1,w0,S0,none⟩ O1 t O2)) .ret O G:=fun _ _ S st=>
 ⟨st.facts.defers,_,pt P fn k hr _ _,R7 st rfl i hO (hu S _ (st.facts.at_ k u hk))⟩
end
theorem zQ: ∀{O1 O2:List OE},ee base B w S O1→ee base B w S O2→(∀e∈O1,∀f∈O2,e.apart f)→ee base B w S (O1++O2)
 |[],_,_,h,_=>h
 |e::O1,O2,⟨h1,h2,h3⟩,h,ha=>⟨h1,fun f hf=>(yJ.1 hf).elim (h2 f) (ha e (oc ..) f),zQ h3 h fun g hg f hf=>ha g (oS _ hg) f hf⟩
section
variable{ty:TypeId}
theorem St.turn{Or O2:List OE}(st:St E (O1++Or) G a w S)(hx:gW (fun k=> ∃f∈O1,f.fp k) w S w' S')(hs:jp w' S')(ho:ee 0 qP w' S' O2)(hn: ∀k,(∃f∈O2,f.fp k)→(∃f∈O1,f.fp k)∨w.heap.size≤k):St E (O2++Or) G a w' S' :=by
 obtain⟨h1,h2,h3⟩:=p8 st.own
 have hbl:=st.base_le
 refine⟨st.ext.step hx (fun b ⟨f,hf,hb⟩=>(ee.mem h1 f hf).2 b hb),hs,zQ (nN ho fun f hf k hk=>?_) (h2.ext hx fun f hf b hb ⟨g,hg,hgb⟩=>h3 g hg f hf b hgb hb) (fun e he f hf b heb hfb=>?_),st.facts.mono hx.keep⟩
 ·rcases hn k ⟨f,hf,hk⟩with⟨g,hg,hgk⟩|h
  ·exact(ee.mem h1 g hg).2 k hgk
  ·exact .inl (nu hbl h)
 ·rcases hn b ⟨e,he,heb⟩with⟨g,hg,hgb⟩|h
  ·exact h3 g hg f hf b hgb hfb
  ·have:=f.here (ee.mem h2 f hf).1 b hfb
   omega
theorem IF{xs:List Operand}(O1 Or:List OE){t:ι→Ty}(hO:O=O1++Or)(hc:au E.P f=true)(hs:jh E.P f ts O1 t O2)(hx:lB E.N G xs ts)(hd:Nat.blt d E.N.n=true)(k: ∀i,RG E ops Q rest (O2 i++Or) ((d,t i)::G)):
  RG E ops Q (⟨some d,.call ⟨.value (.func f),xs.toArray,ats⟩,ty,pos,after,none⟩::rest) O G:= .of rfl fun a w S st=>by
 subst hO
 have hr:(execOp a.eval ⟨some d,.call ⟨.value (.func f),xs.toArray,ats⟩,ty,pos,after,none⟩).run E.P w= .ok (.enter f (xs.map a.eval).toArray) w:=by
  simp [execOp,resolve,Act.eval,Deferred.ofValue,invoke,f7 hc]
 refine⟨fun c h=>(by cases h),?_⟩
 rw [hr]
 refine(hs w S _ st.sat (hx.tys st.facts) (p8 st.own).1.weak).mono fun en w' ⟨i,v,S',he,hv,h1,h2,h3,h4⟩=>⟨_,he,?_⟩;exact k i _ _ S' ((st.turn h1 h2 h3 h4).put hd hv)
end

structure OI where
 h:Nat→Option Nat×Nat:=fun _=>(none,0)
 os:List (Option Nat×Nat):=[]
 fp:Nat→Prop:=qP
 v:Value:=undef
 ng:Nat→(Option Nat×Nat)×(Nat→Option Nat×Nat):=fun _=>((none,0),fun _=>(none,0))
def wk:OI:={}
def oi(l:Option Nat)(c:Nat):OI:={h:=fun _=>(l,c)}
def EffOK(E:En)(O:List OE)(need:mr)(o:Oper)(post:OI→List OE)(t:OI→Ty):Prop:=
 ∀a w S,jp w S→ee E.base E.B w S O→di E.N S a need→E.base≤w.heap.size→
  HJ E.P o a w (fun a' w' => ∃v S' x,a' =a.put o.dst v∧gW (IW O) w S w' S' ∧jp w' S' ∧ee E.base E.B w' S' (post x)∧(t x).p S' v)
variable{post:OI→List OE}{t' :TypeId}
section
variable{ty:TypeId}
theorem Dt{y:Operand}{u:OI→Ty}(ti:TI E.P T sz bytes agg z)(hsz:r.sz=sz)(hz:Nat.beq z.length sz=true)(h0:Nat.blt 0 sz=true)(h128:Nat.ble bytes 2048=true)(ht:E.P.underlying t=some (.slice T))(hx:aL E.N G x (tV (aD l cap n)))(hy: ∀a w S,jp w S→di E.N S a G→ ∃news,Src E.P r.sz t' (a.eval y) ys.length news w∧si r S news ys)(happ:ko xs ys=some zs)(hu: ∀l' cap' w0 S,(md mm r T l' cap' zs).p w0 S→(u (oi l' cap')).p S (aD l' cap' zs.length))(hn:n=xs.length):
  EffOK E (md mm r T l cap xs::O) G ⟨some d,.call ⟨.builtin .append,#[x,y],#[t,t']⟩,ty,pos,after,g⟩ (fun i=>md mm r T (i.h 0).1 (i.h 0).2 zs::O) u:=fun a w S hs ho hf hb=>by
 subst hn
 have h1:a.eval x=aD l cap xs.length:=hx S a hf
 obtain⟨news,h2,h3⟩:=hy a w S hs hf
 obtain⟨l',cap',w',S',hr,hext,hsat,hh,hnew⟩:=wA (ty:=ty) ti hsz hz h0 h128 ht hs ho.1 hb h2 h3 happ
 have hrun:(execOp a.eval ⟨some d,.call ⟨.builtin .append,#[x,y],#[t,t']⟩,ty,pos,after,g⟩).run E.P w= .ok (.value (aD l' cap' zs.length)) w' :=by
  simp [execOp,resolve,invoke,builtin,h1,hr]
 refine⟨fun c h=>(by cases h),?_⟩
 rw [hrun]
 refine⟨_,S',oi l' cap',rfl,hext.more fun b hb=>⟨_,oc ..,hb⟩,hsat,⟨hh,fun f hf b hb hfb=>?_,ho.2.2.ext hext fun f hf b hb hbl=>ho.2.1 f hf b hbl hb⟩,hu l' cap' w' S' hh.1⟩
 rcases hnew b hb with h|h
 ·exact ho.2.1 f hf b h hfb
 ·have:=f.here (ee.mem ho.2.2 f hf).1 b hfb
  omega
theorem wU{y:Operand}(ti:TI E.P T sz bytes agg z)(hsz:r.sz=sz)(hz:Nat.beq z.length sz=true)(h0:Nat.blt 0 sz=true)(h128:Nat.ble bytes 2048=true)(ht:E.P.underlying t=some (.slice T))(ht' :t' =t)(hx:aL E.N G x (tV (aD l cap n)))(hy:aL E.N G y (tD (eX r) ys))(happ:ko xs ys=some zs)(hn:n=xs.length:=by rfl):
  EffOK E (cY r T l cap xs::O) G ⟨some d,.call ⟨.builtin .append,#[x,y],#[t,t']⟩,ty,pos,after,g⟩ (fun i=>cY r T (i.h 0).1 (i.h 0).2 zs::O) (fun i=>tV (aD (i.h 0).1 (i.h 0).2 zs.length)):=by
 subst ht'
 exact Dt ti hsz hz h0 h128 ht hx (fun a w S hs hf=>tP ht hs (hy S a hf)) happ (fun _ _ _ _ _=>rfl) hn
theorem Im{y:Operand}(ti:TI E.P T sz bytes agg z)(hsz:r.sz=sz)(hz:Nat.beq z.length sz=true)(h0:Nat.blt 0 sz=true)(h128:Nat.ble bytes 2048=true)(ht:E.P.underlying t=some (.slice T))(ht' :t' =t)(hx:aL E.N G x (tO r l cap xs))(hy:aL E.N G y (tD (eX r) ys))(happ:ko xs ys=some zs):
  EffOK E (jx r T l cap xs::O) G ⟨some d,.call ⟨.builtin .append,#[x,y],#[t,t']⟩,ty,pos,after,g⟩ (fun i=>jx r T (i.h 0).1 (i.h 0).2 zs::O) (fun i=>tO r (i.h 0).1 (i.h 0).2 zs):=by
 subst ht'
 exact Dt ti hsz hz h0 h128 ht (D8 hx) (fun a w S hs hf=>tP ht hs (hy S a hf)) happ (fun _ _ _ _ h=>⟨rfl,oh h⟩) rfl
theorem Nf{xs:List Operand}{u:OI→Ty}(hc:au E.P f=true)(hs:gk E.P f ts mm r T ys)(hx:lB E.N G xs ts)(hu: ∀l cap w0 S,(md mm r T l cap ys).p w0 S→(u (oi l cap)).p S (aD l cap ys.length)):
  EffOK E O G ⟨some d,.call ⟨.value (.func f),xs.toArray,ats⟩,ty,pos,after,g⟩ (fun i=>md mm r T (i.h 0).1 (i.h 0).2 ys::O) u:=fun a w S hsat ho hf hb=>by
 have hr:(execOp a.eval ⟨some d,.call ⟨.value (.func f),xs.toArray,ats⟩,ty,pos,after,g⟩).run E.P w= .ok (.enter f (xs.map a.eval).toArray) w:=by
  simp [execOp,resolve,Act.eval,Deferred.ofValue,invoke,f7 hc]
 refine⟨fun c h=>(by cases h),?_⟩
 rw [hr]
 exact(hs w S _ hsat (hx.tys hf)).mono fun e w' ⟨l,cap,S',he,h1,h2,h3⟩=>⟨_,he,_,S',oi l cap,rfl,h1.more fun _ hb=>hb.elim,h2,qD ho h1 h3.1 (fun b hb=>(h3.2 b hb).resolve_right id) hb,hu l cap w' S' h3.1⟩
theorem ee.turn{Or O2:List OE}(h:ee base B w S (O1++Or))(hbl:base≤w.heap.size)(hx:gW (IW O1) w S w' S')(ho:ee 0 qP w' S' O2)(hn: ∀k,(∃f∈O2,f.fp k)→(∃f∈O1,f.fp k)∨w.heap.size≤k):ee base B w' S' (O2++Or):=by
 obtain⟨h1,h2,h3⟩:=p8 h
 refine zQ (nN ho fun f hf k hk=>?_) (h2.ext hx fun f hf b hb ⟨g,hg,hgb⟩=>h3 g hg f hf b hgb hb) (fun e he f hf b heb hfb=>?_)
 ·rcases hn k ⟨f,hf,hk⟩with⟨g,hg,hgk⟩|h
  ·exact(ee.mem h1 g hg).2 k hgk
  ·exact .inl (nu hbl h)
 ·rcases hn b ⟨e,he,heb⟩with⟨g,hg,hgb⟩|h
  ·exact h3 g hg f hf b hgb hfb
  ·have:=f.here (ee.mem h2 f hf).1 b hfb
   omega
theorem Fl{xs:List Operand}(O1 Or:List OE){t:OI→Ty}{O2:OI→List OE}(hO:O=O1++Or)(hc:au E.P f=true)(hs:jh E.P f ts O1 t O2)(hx:lB E.N G xs ts)(hpost: ∀i,O2 i++Or=post i):
  EffOK E O G ⟨some d,.call ⟨.value (.func f),xs.toArray,ats⟩,ty,pos,after,g⟩ post t:=fun a w S hsat ho hf hb=>by
 subst hO
 obtain rfl:(fun i=>O2 i++Or)=post:=funext hpost
 have hr:(execOp a.eval ⟨some d,.call ⟨.value (.func f),xs.toArray,ats⟩,ty,pos,after,g⟩).run E.P w= .ok (.enter f (xs.map a.eval).toArray) w:=by
  simp [execOp,resolve,Act.eval,Deferred.ofValue,invoke,f7 hc]
 refine⟨fun c h=>(by cases h),?_⟩
 rw [hr]
 exact(hs w S _ hsat (hx.tys hf) (p8 ho).1.weak).mono fun en w' ⟨i,v,S',he,hv,h1,h2,h3,h4⟩=>⟨_,he,v,S',i,rfl,h1.more fun b ⟨f,hf,hb⟩=>⟨f,EA _ hf,hb⟩,h2,ee.turn ho hb h1 h3 h4,hv⟩
theorem DE{op:Op}{t:OI→Ty}(h:EffOK E O G ⟨some d,op,ty,pos,after,none⟩ post t)(hd:Nat.blt d E.N.n=true)(k: ∀x:OI,RG E ops Q rest (post x) ((d,t x)::G)):RG E ops Q (⟨some d,op,ty,pos,after,none⟩::rest) O G:= .of rfl fun a w S st=>
 nJ (fun a' w' ⟨v,S',x,ha,hx,hs,ho,hv⟩=>by
  subst ha
  exact k x _ _ S' ⟨st.ext.step hx fun b ⟨f,hf,hb⟩=>(ee.mem st.own f hf).2 b hb,hs,ho,(st.facts.mono hx.keep).put hd hv⟩) (h a w S st.sat st.own st.facts st.base_le)
end

def Hg(σ:Nat→OI)(k:Nat)(x:OI):Nat→OI:=fun j=>bif Nat.beq j k then x else σ j
theorem NP(σ:Nat→OI)(k:Nat)(x:OI):Hg σ k x k=x:=by simp [Hg]
theorem Cq(σ:Nat→OI){k j:Nat}(x:OI)(h:j≠k):Hg σ k x j=σ j:=by
 have:Nat.beq j k=false:=by
  cases hb:Nat.beq j k with
  |false=>rfl
  |true=>exact absurd (qd hb) h
 simp [Hg,this]
structure NE where
 slot:Nat
 ty:(Nat→OI)→Ty
 src:Option Nat
def XE(G:mr)(ts:List (OI→Ty))(n:NE):Prop:=
 match n.src with
 |some j=> ∀σ,(ts[j]?).map (fun f=>f (σ j))=some (n.ty σ)
 |none=> ∀σ,look G n.slot=some (n.ty σ)
def LM(G:mr)(ts:List (OI→Ty)):List NE→Prop
 |[]=>True
 |n::l=>XE G ts n∧LM G ts l
theorem LM.mem{ts:List (OI→Ty)}: ∀{l:List NE},LM G ts l→ ∀n∈l,XE G ts n
 |_::_,⟨h,_⟩,_,.head _=>h
 |_::_,⟨_,h⟩,_,.tail _ hm=>LM.mem h _ hm
def pP(E:En)(ops:Array Oper)(O:List OE)(need:mr)(o:Oper)(post:OI→List OE)(t:OI→Ty):Prop:=
 ∀a w S,jp w S→ee E.base E.B w S O→di E.N S a need→E.base≤w.heap.size→
  if Region.wanted o (yielded ops a.tmps)then HJ E.P o a w (fun a' w' => ∃v S' x,a' =a.put o.dst v∧gW (IW O) w S w' S' ∧jp w' S' ∧ee E.base E.B w' S' (post x)∧(t x).p S' v)
  else∃x,ee E.base E.B w S (post x)∧(t x).p S undef
theorem ea{need:mr}{t:OI→Ty}(hg:o.guard=none)(h:EffOK E O need o post t):pP E ops O need o post t:=fun a w S hs ho hf hb=>by
 have:Region.wanted o (yielded ops a.tmps)=true:=by unfold Region.wanted;rw [hg]
 rw [this,bQ rfl]
 exact h a w S hs ho hf hb
def gE(es:List Bool)(i:Nat):Nat:=(es.take i).countP (· ==true)
def J6(L:List Oper)(es:List Bool):Bool:=(List.range es.length).all fun i=>(List.range i).all fun j=> !((es[i]?).getD false&&(es[j]?).getD false)||nW L L.length i j
structure Y0(E:En)(G:mr)(l:List Oper)(ts:List (OI→Ty))(Om:Nat→(Nat→OI)→List OE)(es:List Bool)(done:Array Bool)(a:Act)(w:World)(S:SH)(σ:Nat→OI)(c:Nat):Prop where
 ext:gW E.B E.w0 E.S0 w S
 sat:jp w S
 own:ee E.base E.B w S (Om c σ)
 size:a.tmps.size=E.N.n
 defers:a.defers=E.N.ds
 dsz:done.size=l.length
 down: ∀j o,l[j]? =some o→done.getD j false=true→ ∀e∈o.after,Region.binds .any e=true→done.getD e.on false=true
 old: ∀k t,look G k=some t→(∀j o,l[j]? =some o→done.getD j false=true→o.dst≠some k)→t.p S (a.tmps.getD k undef)
 new: ∀j o d f,l[j]? =some o→done.getD j false=true→o.dst=some d→ts[j]? =some f→(f (σ j)).p S (a.tmps.getD d undef)
 chain: ∀k,es[k]? =some true→(done.getD k false=true↔gE es k<c)
variable{es:List Bool}
theorem Dz: ∀{i j:Nat},i<j→es[i]? =some true→gE es i<gE es j:=by
 induction es with
 |nil=>intro i j _ h;simp at h
 |cons e es ih=>
  intro i j hij h
  cases j with
  |zero=>omega
  |succ j=>
   cases i with
   |zero=>simp at h;subst h;simp [gE]
   |succ i=>
    have:=ih (i:=i) (j:=j) (by omega) (by simpa using h)
    cases e<;>simp [gE]at this ⊢ <;>omega
theorem vN: ∀{c k:Nat},c<gE es k→ ∃i,i<k∧es[i]? =some true∧gE es i=c:=by
 induction es with
 |nil=>intro c k h;simp [gE]at h
 |cons e es ih=>
  intro c k h
  cases k with
  |zero=>simp [gE]at h
  |succ k=>
   cases e with
   |false=>
    obtain⟨i,h1,h2,h3⟩:=ih (c:=c) (k:=k) (by simpa [gE] using h)
    exact⟨i+1,by omega,by simpa using h2,by simpa [gE] using h3⟩
   |true=>
    cases c with
    |zero=>exact⟨0,by omega,rfl,by simp [gE]⟩
    |succ c=>
     obtain⟨i,h1,h2,h3⟩:=ih (c:=c) (k:=k) (by simp [gE]at h ⊢;omega)
     exact⟨i+1,by omega,by simpa using h2,by simp [gE]at h3 ⊢;omega⟩
section
variable{ts:List (OI→Ty)}{Om:Nat→(Nat→OI)→List OE}
theorem Y0.step{σ:Nat→OI}{c c' :Nat}(h:Y0 E G L ts Om es done a w S σ c){f:OI→Ty}{v:Value}{x:OI}{C:Nat→Prop}(hi:L[i]? =some o)(hd:o.dst=some d)(hdN:d<E.N.n)(hs2: ∀j p,L[j]? =some p→done.getD j false=true→p.dst=some d→i=j)(hwait: ∀e∈o.after,Region.binds .any e=true→done.getD e.on false=true)(ht:ts[i]? =some f)(hun:done.getD i true=false)(hext:gW C w S w' S')(hC: ∀b,C b→E.base≤b∨E.B b)(hsat:jp w' S')(hown:ee E.base E.B w' S' (Om c' (Hg σ i x)))(hv:(f x).p S' v)(hch: ∀k,es[k]? =some true→((done.setIfInBounds i true).getD k false=true↔gE es k<c')):
  Y0 E G L ts Om es (done.setIfInBounds i true) (a.put o.dst v) w' S' (Hg σ i x) c' :=by
 have hda:d<a.tmps.size:=by rw [h.size];exact hdN
 have hlt:i<done.size:=by rw [h.dsz];exact(pc.1 hi).1
 have hset: ∀j,(done.setIfInBounds i true).getD j false=true→j=i∨done.getD j false=true:=fun j hj=>by
  by_cases hij:i=j
  ·exact .inl hij.symm
  ·rw [uN false hij]at hj;exact .inr hj
 have hseti:(done.setIfInBounds i true).getD i false=true:=by simp [hlt]
 have hun' :done.getD i false=false:=by simp [hlt]at hun ⊢;exact hun
 refine⟨h.ext.step hext hC,hsat,hown,?_,?_,by simp [h.dsz],fun j p hj hdone e he hb=>?_,fun k u hk hno=>?_,fun j p d' u hj hdone hd' hu=>?_,hch⟩
 ·rw [hd];simp [Act.put,h.size]
 ·rw [hd];exact h.defers
 ·rcases hset j hdone with rfl|hj'
  ·rw [hi]at hj
   have:o=p:=by simpa using hj
   subst this
   exact vc (hwait e he hb)
  ·exact vc (h.down j p hj hj' e he hb)
 ·have hne:d≠k:=fun e=>hno i o hi hseti (by rw [hd,e])
  rw [hd,rq hda,bI hne]
  exact u.mono hext.keep (h.old k u hk fun j p hj hdone=>hno j p hj (vc hdone))
 ·rw [hd,rq hda]
  by_cases hij:j=i
  ·subst hij
   rw [hi]at hj
   have:o=p:=by simpa using hj
   subst this
   rw [hd]at hd'
   have:d=d' :=by simpa using hd'
   subst this
   rw [bQ rfl]
   rw [ht]at hu
   have:f=u:=by simpa using hu
   subst this
   rw [NP]
   exact hv
  ·have hj' :=(hset j hdone).resolve_left hij
   have hne:d≠d' :=fun e=>by
    subst e
    have:=hs2 j p hj hj' hd'
    exact hij this.symm
   rw [bI hne,Cq σ x hij]
   exact Ty.mono _ hext.keep (h.new j p d' u hj hj' hd' hu)
end

section
variable{ty:TypeId}
theorem EX(ht:E.P.underlying t=some (.slice e))(hx:aL E.N G x (tV (.slice none 0 0))):cO E O G ⟨dst,.call ⟨.builtin .len,#[x],#[t]⟩,ty,pos,after,g⟩ (tD (rI .i64) (0:Int)):=
 .of_pure fun a w S _ _ hf=>by
  have h1:a.eval x= .slice none 0 0:=hx S a hf
  refine⟨.int .i64 0,?_,fg.2 rfl⟩
  simp [execOp,resolve,invoke,builtin,Builtin.len_,jr ht,h1,goInt]
theorem EY(ht:E.P.underlying t=some (.slice e))(hx:aL E.N G x (tV (.slice none 0 0))):cO E O G ⟨dst,.call ⟨.builtin .cap,#[x],#[t]⟩,ty,pos,after,g⟩ (tD (rI .i64) (0:Int)):=
 .of_pure fun a w S _ _ hf=>by
  have h1:a.eval x= .slice none 0 0:=hx S a hf
  refine⟨.int .i64 0,?_,fg.2 rfl⟩
  simp [execOp,resolve,invoke,builtin,Builtin.cap_,jr ht,h1,goInt]
theorem HK{hi:Operand}(ht:E.P.underlying t=some (.slice T))(ti:TI E.P T sz bytes agg z)(hx:aL E.N G x (tV (.slice none 0 0)))(hhi:aL E.N G hi (tD (rI k) (0:Int))):
  cO E O G ⟨dst,.slice t x none (some hi) none,ty,pos,after,g⟩ (tV (.slice none 0 0)):=
 .of_pure fun a w S _ _ hf=>by
  have h1:a.eval x= .slice none 0 0:=hx S a hf
  have h6:=fg.1 (hhi S a hf)
  refine⟨.slice none 0 0,?_,rfl⟩
  have hb:=lb (P:=E.P) (w:=w) (k:=k) (n:=(0:Int)) (y:=0) (code:= .sliceAcap) (by omega) (by omega)
  simp [execOp,Instr.sliceAt,h1,h6,Instr.slice,jr ht,Instr.sliceBounds,hb,lb (k:=k) (n:=(0:Int)) (y:=0) (by omega) (by omega),ti.sizeOf]
end

def Cn{α:Type}(n:Int)(z:α):Option (List α):=if 0≤n∧n≤68719476736 then some (List.replicate n.toNat z)else none
theorem Hc{n:Int}{z:α}(h:Cn n z=some zs): ∃m:Nat,n=m∧m≤68719476736∧zs=List.replicate m z:=by
 unfold Cn at h
 split at h
 ·rename_i hc;exact⟨n.toNat,by omega,by omega,by simpa using h.symm⟩
 ·cases h
theorem Aq{α:Type}{r:Rp α}{x:α}{z:List Value}(hx: ∀S,r.rc S z x)(S:SH): ∀n:Nat,si r S (List.replicate n z).flatten (List.replicate n x)
 |0=>rfl
 |n+1=>⟨z,_,by rw [List.replicate_succ,List.flatten_cons],hx S,Aq hx S n⟩
theorem CT(z:List Value):(List.range z.length).map (fun i=>z[i%z.length]?.getD default)=z:=by
 apply G8
 intro k
 rcases m2 k z.length with h|h
 ·rw [Ez,List.getElem?_range h]
  simp [Nat.mod_eq_of_lt h,h]
 ·rw [Ck (by simpa using h),Ck h]
theorem qV(z:List Value)(n:Nat):(Builtin.zeroCells z.toArray n).toList=(List.replicate n z).flatten:=by
 unfold Builtin.zeroCells
 simp
 induction n with
 |zero=>simp
 |succ n ih=>
  rw [List.replicate_succ,List.flatten_cons,←ih,Nat.succ_mul,Nat.add_comm,List.range_add,List.map_append,CT,List.map_map]
  congr 1
  apply G9
  intro i _
  simp
section
variable{ty:TypeId}
theorem flat_len(h:z.length=sz)(n:Nat):(List.replicate n z).flatten.length=n*sz:=by
 simp [h]
theorem Il{x:α}{n:Int}{s y:Operand}{kn:IntKind}(ti:TI E.P T sz bytes agg z)(hsz:r.sz=sz)(hz:Nat.beq z.length sz=true)(h0:Nat.blt 0 sz=true)(h128:Nat.ble bytes 2048=true)(ht:E.P.underlying t=some (.slice T))(ht' :E.P.underlying t' =some (.int kn))(hx: ∀S,r.rc S z x)(hs' :aL E.N G s (tV (.slice none 0 0)))(hy:aL E.N G y (tD (rI k) n))(hn:0<n)(h:Cn n x=some zs):
  EffOK E O G ⟨some d,.call ⟨.builtin .append,#[s,y],#[t,t']⟩,ty,pos,after,g⟩ (fun i=>cY r T (i.h 0).1 (i.h 0).2 zs::O) (fun i=>tV (aD (i.h 0).1 (i.h 0).2 zs.length)):=fun a w S hs ho hf hb=>by
 subst hsz
 obtain⟨i,zv,hi,h1,h2,h3,h4⟩:=ti.get
 obtain⟨m,rfl,hm,rfl⟩:=Hc h
 have hsv:a.eval s= .slice none 0 0:=hs' S a hf
 have hyv:=fg.1 (hy S a hf)
 have hz2:z.length=r.sz:=qd hz
 have h128' :=qc h128
 have h0' :0<r.sz:=by simpa [uJ] using h0
 have hbytes:m*i.bytes≤281474976710656:=by
  have:m*i.bytes≤68719476736*2048:=Nat.mul_le_mul hm (by omega)
  omega
 have hr:=Lib.run_append_nil_zeros (P:=E.P) w t t' ty T i zv k kn ht ht' hi h3 m (by omega) (by omega) (by omega) hbytes
 have hge:=grownCap_ge w m 0 T
 have hle:=grownCap_le_maxLen w m 0 T (by simp only [maxLen];omega)
 generalize grownCap w m 0 T=cp at hr hge hle
 obtain⟨C,hC⟩: ∃C,Builtin.zeroCells zv.cells m++Builtin.zeroCells zv.cells (cp-m)=C:=⟨_,rfl⟩
 rw [hC]at hr
 obtain⟨he0,hs0⟩:=xa (w:=w) hs
 obtain⟨he,hs2,hno⟩:=fS (w:=w.drew) (.cells C T (0,0)) hs0
 have hx2:gW qP w S (w.drew.alloc (.cells C T (0,0))) S:=he0.trans he
 have hrun:(execOp a.eval ⟨some d,.call ⟨.builtin .append,#[s,y],#[t,t']⟩,ty,pos,after,g⟩).run E.P w= .ok (.value (.slice (some ⟨w.heap.size,0,none⟩) m cp)) (w.drew.alloc (.cells C T (0,0))):=by
  simp [execOp,resolve,invoke,builtin,hsv,hyv,hr]
 refine⟨fun c h=>(by cases h),?_⟩
 rw [hrun]
 have hfl:=flat_len hz2 m
 have hC1:C.toList=(List.replicate m z).flatten++(List.replicate (cp-m) z).flatten:=by
  rw [←hC,Array.toList_append,h4,qV,qV]
 refine⟨_,S,oi (some w.heap.size) cp,rfl,hx2.more fun _ hb=>hb.elim,hs2,qD ho hx2 (e:=cY r T (some w.heap.size) cp (List.replicate m x)) ⟨(List.replicate m z).flatten,⟨C,wp w.drew _,by simpa using hge,hle,?_,?_⟩,Aq hx S m,fun b hb=>by rw [←od hb];exact hno⟩ (fun b hb=>yQ (od hb)) hb,?_⟩
 ·have:C.toList.length=cp*r.sz:=by
   rw [hC1,mt,hfl,flat_len hz2,←wd];congr 1;omega
  simpa using this
 ·rw [hC1,List.length_replicate,←hfl,List.take_left]
 ·show _=aD _ _ _
  rw [List.length_replicate];rfl

theorem No{x:α}{y:Operand}(ti:TI E.P T sz bytes agg z)(hsz:r.sz=sz)(hz:Nat.beq z.length sz=true)(ht:E.P.underlying t=some (.slice T))(hx: ∀S,r.rc S z x)(hone:z.all (·.oneCell')=true)(hs:dw xs lo (xs.length:Int)=some ys)(hy:aL E.N G y (tV (nR sz l cap lo.toNat ys.length)))(hzs:xs.take lo.toNat++List.replicate ys.length x=zs)(k:RG E ops Q rest (cY r T l cap zs::O) G):
  RG E ops Q (⟨none,.call ⟨.builtin .clear,#[y],#[t]⟩,ty,pos,after,none⟩::rest) (cY r T l cap xs::O) G:= .of rfl fun a w S st=>by
 subst hsz
 subst hzs
 obtain⟨i,zv,hi,h1,h2,h3,h4⟩:=ti.get
 have hyv:a.eval y=nR r.sz l cap lo.toNat ys.length:=hy S a st.facts
 have hz2:z.length=r.sz:=qd hz
 obtain⟨lo',m,rfl,hm,h5,h6,rfl⟩:=fT hs
 have hm' :m=xs.length:=by omega
 subst hm'
 rw [Cd]at hyv k
 rw [Ab]at hyv k
 by_cases hnil:xs.drop lo' =[]
 ·have hlo:xs.length≤lo' :=EB.1 hnil
  rw [hnil]at hyv k
  have e1:xs.take lo' ++List.replicate ([]:List α).length x=xs:=by simp [vg hlo]
  rw [e1]at k
  have hrun:(execOp a.eval ⟨none,.call ⟨.builtin .clear,#[y],#[t]⟩,ty,pos,after,none⟩).run E.P w= .ok (.value (.tuple #[])) w:=by
   cases l<;>simp [execOp,resolve,invoke,builtin,Builtin.clear_,jr ht,hyv,nR]
  refine⟨fun c h=>(by cases h),?_⟩
  rw [hrun]
  exact k _ _ S st
 ·obtain⟨⟨cells,hraw,hrc,hno⟩,hbase⟩:=st.own.1
  have hlt:lo' <xs.length:=by
   rcases m2 lo' xs.length with h|h
   ·exact h
   ·exact absurd (G5 h) hnil
  cases l with
  |none=>have:=hraw.1;omega
  |some b=>
   obtain⟨cur,g1,g2,g3,g4,g5⟩:=hraw
   have hno' :S b=none:=hno b rfl
   have hne: ¬(cap=lo'):=by omega
   have hld:(xs.drop lo').length=xs.length-lo' :=by simp
   have hfl:=flat_len hz2 (xs.length-lo')
   have hones: ∀u∈(List.replicate (xs.length-lo') z).flatten,u.oneCell' =true:=by
    intro u hu
    obtain⟨q,hq,hu⟩:=List.mem_flatten.1 hu
    rw [(List.mem_replicate.1 hq).2]at hu
    exact m3.1 hone u hu
   have hmul:xs.length*r.sz≤cur.size:=by rw [g4];exact yO _ g2
   have hfit:lo' *r.sz+(xs.length-lo')*r.sz=xs.length*r.sz:=by rw [←wd];congr 1;omega
   have hst:=run_storeCells_at E.P b (lo' *r.sz) T (List.replicate (xs.length-lo') z).flatten 0 cur w g1 (by omega) hones
   simp only [yP]at hst
   have hrun:(execOp a.eval ⟨none,.call ⟨.builtin .clear,#[y],#[t]⟩,ty,pos,after,none⟩).run E.P w= .ok (.value (.tuple #[])) (w.setRow b (cur.toList.take (lo' *r.sz)++(List.replicate (xs.length-lo') z).flatten++cur.toList.drop (lo' *r.sz+(List.replicate (xs.length-lo') z).flatten.length)).toArray):=by
    have e1: ∃q,xs.length-lo' =q+1:=⟨xs.length-lo' -1,by omega⟩
    obtain⟨q,hq⟩:=e1
    have e2:a.eval y= .slice (some ⟨b,lo' *r.sz,none⟩) (q+1) (cap-lo'):=by rw [hyv,hld,hq];simp [nR,hne]
    rw [hq]at hst ⊢
    simp [execOp,resolve,invoke,builtin,Builtin.clear_,jr ht,e2,zeroValue,typeInfo,hi,h3,h4,qV,hst]
   refine⟨fun c h=>(by cases h),?_⟩
   rw [hrun]
   have hset:=setRow_heap w b cur (cur.toList.take (lo' *r.sz)++(List.replicate (xs.length-lo') z).flatten++cur.toList.drop (lo' *r.sz+(List.replicate (xs.length-lo') z).flatten.length)).toArray T _ g1
   have hl2:(xs.take lo' ++List.replicate (xs.drop lo').length x).length=xs.length:=by simp;omega
   have hsp:si r S (cells.take (lo' *r.sz)) (xs.take lo'):=by
    have e:xs=xs.take lo' ++xs.drop lo' :=(sS _ _).symm
    rw [e]at hrc
    have:=(pV hrc).1
    rwa [show(xs.take lo').length=lo' from by simp;omega]at this
   have hcl:((cur.toList.take (lo' *r.sz)++(List.replicate (xs.length-lo') z).flatten++cur.toList.drop (lo' *r.sz+(List.replicate (xs.length-lo') z).flatten.length)).toArray).toList.take ((xs.take lo' ++List.replicate (xs.drop lo').length x).length*r.sz)=cells.take (lo' *r.sz)++(List.replicate (xs.length-lo') z).flatten:=by
    rw [hl2,←g5,Bv,yK (yO _ (by omega))]
    have hlen1:(cur.toList.take (lo' *r.sz)++(List.replicate (xs.length-lo') z).flatten).length=xs.length*r.sz:=by
     rw [mt,hfl,Bx,FB,yK (by omega)];exact hfit
    rw [←hlen1,List.take_left]
   obtain⟨q1,q2,q3⟩:=nI (O:=O) st.sat (cY r T (some b) cap xs) (cY r T (some b) cap (xs.take lo' ++List.replicate (xs.drop lo').length x)) st.own (fun k=>⟨fun h=>(od h).symm,fun h=>by rw [h];rfl⟩) (fun k=>⟨fun h=>(od h).symm,fun h=>by rw [h];rfl⟩)
    (w' :=w.setRow b (cur.toList.take (lo' *r.sz)++(List.replicate (xs.length-lo') z).flatten++cur.toList.drop (lo' *r.sz+(List.replicate (xs.length-lo') z).flatten.length)).toArray) ⟨rfl,rfl,rfl,by simp [World.setRow],gB _⟩ (fun k hk=>setRow_other w b k _ hk)
    ⟨cells.take (lo' *r.sz)++(List.replicate (xs.length-lo') z).flatten,⟨_,hset,by rw [hl2];exact g2,g3,by simp only [Cj,mt,Bx,yR,FB];omega,hcl⟩,by rw [hld];exact s9 hsp (Aq hx S _),fun k hk=>by rw [←od hk];exact hno'⟩ hno'
   ·exact k _ _ S ⟨st.ext.step q1 (fun c hc=>hbase c (by rw [hc];rfl)),q2,q3,st.facts⟩
end

def pH{α:Type}(r:Rp α)(n:Nat):Rp (List α) where
 sz:=n*r.sz
 agg:=true
 rc:=fun S cs xs=>xs.length=n∧si r S cs xs
 mono:=fun h ⟨h1,h2⟩=>⟨h1,rP h h2⟩
 len:=fun⟨h1,h2⟩=>by rw [lW h2,h1]
 one:=fun⟨_,h2⟩=>zd h2
 sc:=fun h=>by cases h
section
section
variable{ty:TypeId}
theorem Ei{i:Int}(ht:E.P.underlying t=some (.array n e))(ti:TI E.P e sz bytes agg z)(hm:bx (pH r n) T b xs∈O)(hx:aL E.N G x (tV (aN b 0)))(hi:aL E.N G ix (tD (rI k) i))(hy:dC xs i=some y):
  cO E O G ⟨dst,.indexAddr t x ix,ty,pos,after,g⟩ (tV (aN b (i.toNat*sz))):=
 .of_pure fun a w S _ ho hf=>by
  have h1:a.eval x=aN b 0:=hx S a hf
  have h5:a.eval ix= .int k i:=fg.1 (hi S a hf)
  obtain⟨⟨_,c,_,h4,_⟩,_⟩:=ho.mem _ hm
  obtain⟨h0,hy'⟩:=lw hy
  have hlt:i.toNat<xs.length:=(pc.1 hy').1
  have hc:0≤i∧i<(n:Int):=⟨h0,by omega⟩
  refine⟨_,?_,rfl⟩
  simp [execOp,h1,h5,aN,Instr.indexAt,asIntOf,jr ht,Instr.sureAddr,hc,ti.sizeOf,iV]
end
end
theorem xJ{α:Type}{r:Rp α}{c:Value}{x:α}(h: ∀S,r.rc S [c] x)(S:SH): ∀n,si r S (List.replicate n c) (List.replicate n x)
 |0=>rfl
 |n+1=>⟨[c],_,rfl,h S,xJ h S n⟩
theorem Iu{c:Value}{x:α}(n:Nat)(h: ∀S,r.rc S [c] x): ∀S,(pH r n).rc S (List.replicate n c) (List.replicate n x):=fun S=>⟨List.length_replicate,xJ h S n⟩
def TX(n:Nat):Option Unit:=if n≤68719476736 then some ()else none
def XJ(n:Int):Option Unit:=if 0<n then some ()else none
theorem OM{n:Int}{u:Unit}(h:XJ n=some u):0<n:=by
 unfold XJ at h
 split at h
 ·assumption
 ·cases h
theorem PJ{e:Exit}(mm:Bool)(r:Rp α)(T:TypeId)(h:AT E Q e (md mm r T none 0 []::O) G):AT E Q e O G:=fun a w S st=>h a w S (st.fresh mm r T)
theorem Fp{x:α}(h:dw xs lo (xs.length:Int)=some ys)(hz:xs.take lo.toNat++List.replicate ys.length x=zs):zs.length=xs.length:=by
 obtain⟨l,m,rfl,hm,h1,h2,rfl⟩:=fT h
 have hm' :m=xs.length:=by omega
 subst hm'
 rw [←hz]
 simp
 omega

def tC(n:FuncId)(cts:List Ty):Ty where
 p:=fun S v=> ∃cap:List Value,v= .func (.func n) #[] cap.toArray∧vO S cts cap
 mono:=fun h ⟨cap,e,k⟩=>⟨cap,e,vO.mono h k⟩
section
section
variable{ty:TypeId}
theorem Ot{fid:FuncId}{caps:List Operand}(hcap:lB E.N G caps cts):cO E O G ⟨dst,.makeFunc (.func fid) #[] caps.toArray,ty,pos,after,g⟩ (tC fid cts):=
 .of_pure fun a w S _ _ hf=>⟨.func (.func fid) #[] (caps.map a.eval).toArray,by simp [execOp,Instr.makeFunc],_,rfl,hcap.tys hf⟩
end
theorem Ng{n:FuncId}{ty:TypeId}{fo:Operand}{xs:List Operand}(O1 Or:List OE){t:OI→Ty}{O2:OI→List OE}(hO:O=O1++Or)(hc:au E.P n=true)(hs:jh E.P n (ts++cts) O1 t O2)(hf:aL E.N G fo (tC n cts))(hx:lB E.N G xs ts)(hpost: ∀i,O2 i++Or=post i):
  EffOK E O G ⟨some d,.call ⟨.value fo,xs.toArray,ats⟩,ty,pos,after,g⟩ post t:=fun a w S hsat ho hF hb=>by
 subst hO
 obtain rfl:(fun i=>O2 i++Or)=post:=funext hpost
 obtain⟨cap,e,hcap⟩:=hf S a hF
 have hr:(execOp a.eval ⟨some d,.call ⟨.value fo,xs.toArray,ats⟩,ty,pos,after,g⟩).run E.P w= .ok (.enter n ((xs.map a.eval).toArray++cap.toArray)) w:=by
  simp [execOp,resolve,e,Deferred.ofValue,invoke,f7 hc]
 refine⟨fun c h=>(by cases h),?_⟩
 rw [hr]
 have e2:(xs.map a.eval).toArray++cap.toArray=((xs.map a.eval)++cap).toArray:=by simp
 rw [e2]
 exact(hs w S _ hsat ((hx.tys hF).append hcap) (p8 ho).1.weak).mono fun en w' ⟨i,v,S',he,hv,h1,h2,h3,h4⟩=>⟨_,he,v,S',i,rfl,h1.more fun b ⟨f,hf,hb⟩=>⟨f,EA _ hf,hb⟩,h2,ee.turn ho hb h1 h3 h4,hv⟩
end

def Ep{α:Type}(xs:List α)(lo:Int)(n:Nat)(i:Int):Option α:=if 0≤i∧i<(n:Int)then dC xs (lo+i)else none
theorem xm{i:Int}(h:Ep xs lo n i=some y):0≤i∧i<(n:Int)∧dC xs (lo+i)=some y:=by
 unfold Ep at h
 split at h
 ·rename_i hc;exact⟨hc.1,hc.2,h⟩
 ·cases h
theorem Ag(h:dw xs lo hi=some ys):0≤lo:=by
 obtain⟨l,m,rfl,_,_,_,_⟩:=fT h
 omega
section
theorem qN(hm:md mm r T l cap xs∈O)(hs:dw xs lo hi=some ys)(h:(l=none→ys.length=0)∧ys.length≤maxLen→RG E ops Q rest O G):RG E ops Q rest O G:=fun a w S st=>by
 refine h ?_ a w S st
 obtain⟨cells,h1,_⟩:=(st.own.mem _ hm).1
 obtain⟨l',m,_,_,_,h8,rfl⟩:=fT hs
 have hlen:((xs.take m).drop l').length≤xs.length:=by simp;omega
 cases l with
 |none=>have:=h1.1;exact⟨fun _=>by omega,by omega⟩
 |some b=>obtain⟨cur,_,g2,g3,_⟩:=h1;exact⟨fun h=>(by cases h),by omega⟩
section
variable{ty:TypeId}
theorem KI{lo:Nat}(ht:E.P.underlying t=some (.slice e))(hv:l=none→n=0)(hx:aL E.N G x (tV (nR sz l cap lo n))):
  cO E O G ⟨dst,.call ⟨.builtin .len,#[x],#[t]⟩,ty,pos,after,g⟩ (tD (rI .i64) (n:Int)):=
 .of_pure fun a w S _ ho hf=>by
  have h1:a.eval x=nR sz l cap lo n:=hx S a hf
  obtain⟨ad,c,h3⟩: ∃ad c,nR sz l cap lo n= .slice ad n c:=by
   cases l with
   |none=>rw [hv rfl];exact⟨none,0,rfl⟩
   |some b=>exact⟨_,_,rfl⟩
  refine⟨.int .i64 n,?_,fg.2 rfl⟩
  simp [execOp,resolve,invoke,builtin,Builtin.len_,jr ht,h1,h3,goInt]
theorem uB{i:Int}(ht:E.P.underlying t=some (.slice e))(ti:TI E.P e sz bytes agg z)(hsz:r.sz=sz)(hm:md mm r U l cap xs∈O)(hl0:0≤lo)(hx:aL E.N G x (tV (nR sz l cap lo.toNat n)))(hi' :aL E.N G ix (tD (rI k) i))(hy:Ep xs lo n i=some y):
  cO E O G ⟨dst,.indexAddr t x ix,ty,pos,after,g⟩ (tV (kz l ((lo+i).toNat*sz+0))):=
 .of_pure fun a w S _ ho hf=>by
  subst hsz
  have h1:a.eval x=nR r.sz l cap lo.toNat n:=hx S a hf
  have h3:a.eval ix= .int k i:=fg.1 (hi' S a hf)
  obtain⟨hi0,hin,hxi⟩:=xm hy
  obtain⟨_,hx'⟩:=lw hxi
  obtain⟨b,cur,rfl,_,hle,_⟩:=qA (ho.mem _ hm).1 hx'
  have hlt2:(lo+i).toNat<xs.length:=(pc.1 hx').1
  have hne: ¬(cap=lo.toNat):=by omega
  refine⟨_,?_,rfl⟩
  have hc:0≤i∧i<(n:Int):=⟨hi0,hin⟩
  have e1:(lo+i).toNat=lo.toNat+i.toNat:=by omega
  simp [execOp,h1,h3,nR,hne,Instr.indexAt,asIntOf,jr ht,hc,ti.sizeOf,iV,kz,aN,e1,wd]
end
end

section
variable{ty:TypeId}{l:List Oper}
end

theorem Vx [Inhabited α]{c b:Bool}{x:Option α}{k:α→Option β}{d:Option β}{r:β}(h:c=true→(if b=true then x.bind k else d)=some r): ∃y,((c&&b)=true→x=some y∧k y=some r)∧(c=true→b=false→d=some r):=by
 cases c with
 |false=>exact⟨default,fun e=>(by cases e),fun e=>(by cases e)⟩
 |true=>
  obtain⟨y,h1,h2⟩:=og (h rfl)
  exact⟨y,fun e=>h1 e,fun _ e=>h2 e⟩
def rW{κ β:Type} [DecidableEq κ]:List (κ×β)→κ→Option β
 |[],_=>none
 |p::m,k=>if p.1=k then some p.2 else rW m k
def jS{κ β:Type} [DecidableEq κ]:List (κ×β)→κ→β→List (κ×β)
 |[],k,v=>[(k,v)]
 |p::m,k,v=>if p.1=k then(k,v)::m else p::jS m k v
def LR{κ:Type}(P:Program)(kt:TypeId)(kv:κ→Value):Prop:= ∃d,P.underlying kt=some d∧(∀a,MapKept.IsKey d (kv a))∧ ∀a b,kv a=kv b→a=b
def XV(k:IntKind)(n:Int):Value:= .int k n
theorem ir{kt:TypeId}(h:P.underlying kt=some (.int k)):LR P kt (XV k):=⟨_,h,fun _=>rfl,fun a b e=>by injection e⟩
structure MV(β:Type) where
 p:World→SH→β→Option Nat×Nat→Value→Prop
 here: ∀{w S y o v},p w S y o v→ ∀j,o.1=some j→j<w.heap.size
 kept: ∀{C w w' S S' y o v},p w S y o v→gW C w S w' S' →(∀j,o.1=some j→ ¬C j)→p w' S' y o v
def Ow{β:Type}(ty:β→Ty):MV β where
 p:=fun _ S y o v=>o.1=none∧(ty y).p S v
 here:=fun h j hj=>by rw [h.1]at hj;cases hj
 kept:=fun h k _=>⟨h.1,(ty _).mono k.keep h.2⟩
section
variable{κ:Type} [DecidableEq κ]{V:MV β}{kv:κ→Value}{d:TypeDesc}{k:κ}
def wj(V:MV β)(kv:κ→Value)(w:World)(S:SH)(h:Option κ):List MapEntry→List (Option Nat×Nat)→List (κ×β)→Prop
 |[],[],[]=>True
 |e::es,o::os,q::m=>e.key=kv q.1∧(if h=some q.1 then o.1=none else V.p w S q.2 o e.val)∧(∀o' ∈os,∀j,o.1=some j→o'.1≠some j)∧(∀p∈m,p.1≠q.1)∧wj V kv w S h es os m
 |_,_,_=>False
theorem Fi{h:Option κ}: ∀{es:List MapEntry} {os:List (Option Nat×Nat)} {m:List (κ×β)},wj V kv w S h es os m→ ∀o∈os,∀j,o.1=some j→j<w.heap.size
 |[],[],[],_,o,ho,_,_=>by cases ho
 |e::es,o::os,q::m,⟨_,h2,_,_,h5⟩,o',ho,j,hj=>by
  rcases kp.1 ho with rfl|ho
  ·split at h2
   ·rw [h2]at hj;cases hj
   ·exact V.here h2 j hj
  ·exact Fi h5 o' ho j hj
theorem zE{C:Nat→Prop}(k:gW C w S w' S'){h:Option κ}: ∀{es:List MapEntry} {os:List (Option Nat×Nat)} {m:List (κ×β)},wj V kv w S h es os m→(∀o∈os,∀j,o.1=some j→ ¬C j)→wj V kv w' S' h es os m
 |[],[],[],_,_=>trivial
 |e::es,o::os,q::m,⟨h1,h2,h3,h4,h5⟩,hC=>⟨h1,by
  split
  ·rename_i hh;rw [bQ hh]at h2;exact h2
  ·rename_i hh;rw [bI hh]at h2;exact V.kept h2 k (hC o (oc ..)),h3,h4,zE k h5 fun o' ho=>hC o' (oS _ ho)⟩
theorem Bm{h:Option κ}: ∀{es:List MapEntry} {os:List (Option Nat×Nat)} {m:List (κ×β)},wj V kv w S h es os m→(∀p∈m,h≠some p.1)→wj V kv w S none es os m
 |[],[],[],_,_=>trivial
 |e::es,o::os,q::m,⟨h1,h2,h3,h4,h5⟩,hk=>⟨h1,by
  rw [bI (hk q (oc ..))]at h2
  rw [bI (by simp)];exact h2,h3,h4,Bm h5 fun p hp=>hk p (oS _ hp)⟩
theorem sw(hd: ∀a,MapKept.IsKey d (kv a))(hi: ∀a b,kv a=kv b→a=b)(a b:κ):Instr.sameNow d (kv a) (kv b)=some (decide (a=b)):=by
 obtain⟨r,h1,h2⟩:=MapKept.sameNow_of_keys (hd a) (hd b)
 rw [h1]
 by_cases h:a=b
 ·subst h;rw [h2.2 rfl];simp
 ·rw [qb h]
  cases r with
  |false=>rfl
  |true=>exact absurd (hi _ _ (h2.1 rfl)) h
theorem yB(hd: ∀a,MapKept.IsKey d (kv a))(hi: ∀a b,kv a=kv b→a=b): ∀{es:List MapEntry} {os:List (Option Nat×Nat)} {m:List (κ×β)} (i:Nat),wj V kv w S none es os m→
  ∃os',(∀x∈os',x∈os∨x.1=none)∧wj V kv w S (some k) es os' m∧
   ((rW m k=none∧Instr.findNow d (kv k) es i=some none)∨ ∃(y:β) (o:Option Nat×Nat) (e:MapEntry) (j:Nat),rW m k=some y∧o∈os∧V.p w S y o e.val∧Instr.findNow d (kv k) es i=some (some (j,e.val))∧ ∀x∈os',∀q,o.1=some q→x.1≠some q)
 |[],[],[],i,_=>⟨[],fun x hx=>(by cases hx),trivial,.inl ⟨rfl,rfl⟩⟩
 |e::es,o::os,q::m,i,⟨h1,h2,h3,h4,h5⟩=>by
  rw [bI (by simp)]at h2
  by_cases hk:q.1=k
  ·refine⟨(none,0)::os,fun x hx=>?_,⟨h1,by rw [bQ (by rw [hk])],fun _ _ _ hj=>(by cases hj),h4,?_⟩,.inr ⟨q.2,o,e,i,by unfold rW;rw [bQ hk],oc ..,h2,?_,fun x hx j hj=>?_⟩⟩
   ·rcases kp.1 hx with rfl|hx
    ·exact .inr rfl
    ·exact .inl (oS _ hx)
   ·have: ∀{es:List MapEntry} {os:List (Option Nat×Nat)} {m:List (κ×β)},wj V kv w S none es os m→(∀p∈m,p.1≠k)→wj V kv w S (some k) es os m:=by
     intro es
     induction es with
     |nil=>intro os m h _;cases os<;>cases m<;>first|trivial|exact h.elim
     |cons e es ih=>
      intro os m h hm
      cases os with
      |nil=>cases m<;>exact h.elim
      |cons o os=>
       cases m with
       |nil=>exact h.elim
       |cons q m=>
        obtain⟨g1,g2,g3,g4,g5⟩:=h
        rw [bI (by simp)]at g2
        exact⟨g1,by rw [bI (fun e=>hm q (oc ..) (od e).symm)];exact g2,g3,g4,ih g5 fun p hp=>hm p (oS _ hp)⟩
    exact this h5 (fun p hp=>by rw [←hk];exact h4 p hp)
   ·unfold Instr.findNow
    rw [h1,sw hd hi,hk,qQ rfl]
   ·rcases kp.1 hx with rfl|hx
    ·exact fun e=>by cases e
    ·exact h3 x hx j hj
  ·obtain⟨os',g1,g2,g3⟩:=yB hd hi (i+1) h5
   refine⟨o::os',fun x hx=>?_,⟨h1,by rw [bI (fun e=>hk (od e).symm)];exact h2,fun o' ho' j hj=>?_,h4,g2⟩,?_⟩
   ·rcases kp.1 hx with rfl|hx
    ·exact .inl (oc ..)
    ·exact(g1 x hx).imp (oS _) id
   ·rcases g1 o' ho' with h|h
    ·exact h3 o' h j hj
    ·rw [h];exact fun e=>by cases e
   ·have hf:Instr.findNow d (kv k) (e::es) i=Instr.findNow d (kv k) es (i+1):=by
     conv=>lhs;unfold Instr.findNow
     rw [h1,sw hd hi,qb (fun e=>hk e.symm)]
    have hm:rW (q::m) k=rW m k:=by conv=>lhs;unfold rW;rw [bI hk]
    rw [hf,hm]
    refine g3.imp id fun⟨y,o1,e1,j,f1,f2,f3,f4,f5⟩=>⟨y,o1,e1,j,f1,oS _ f2,f3,f4,fun x hx q hq=>?_⟩
    rcases kp.1 hx with rfl|hx
    ·exact fun e=>h3 o1 f2 q e hq
    ·exact f5 x hx q hq
theorem Be(x:α)(xs:List α)(j:Nat)(f:α→α):(x::xs).modify (j+1) f=x::xs.modify j f:=by simp [List.modify_succ_cons]
theorem Fj(hd: ∀a,MapKept.IsKey d (kv a))(hi: ∀a b,kv a=kv b→a=b){y:β}{o:Option Nat×Nat}{v:Value}{born:Nat}(hv:V.p w S y o v): ∀{es:List MapEntry} {os:List (Option Nat×Nat)} {m:List (κ×β)} (i:Nat),wj V kv w S (some k) es os m→(∀o' ∈os,∀j,o.1=some j→o'.1≠some j)→
    ∃os',(∀x∈os',x∈os∨x=o)∧
      ((∃(j:Nat) (e:MapEntry),Instr.findNow d (kv k) es i=some (some (i+j,e.val))∧es[j]? =some e∧e.key=kv k∧wj V kv w S none (es.modify j fun e=>{e with key:=kv k,val:=v}) os' (jS m k y))∨
        (Instr.findNow d (kv k) es i=some none∧wj V kv w S none (es++[⟨kv k,v,born⟩]) os' (jS m k y)))
  |[],[],[],i,_,_=>⟨[o],fun x hx=> .inr (AW.1 hx),.inr ⟨rfl,⟨rfl,by rw [bI (by simp)];exact hv,fun _ h=>(by cases h),fun _ h=>(by cases h),trivial⟩⟩⟩
  |e::es,o1::os,q::m,i,⟨h1,h2,h3,h4,h5⟩,ha=>by
    by_cases hk:q.1=k
    · refine⟨o::os,fun x hx=>?_,.inl ⟨0,e,?_,rfl,by rw [h1,hk],?_⟩⟩
      · rcases kp.1 hx with rfl|hx
        · exact .inr rfl
        · exact .inl (oS _ hx)
      · unfold Instr.findNow
        rw [h1,sw hd hi,hk,qQ rfl]
        rfl
      · unfold jS
        rw [bQ hk,List.modify_zero_cons]
        exact⟨rfl,by rw [bI (by simp)];exact hv,fun o' ho' =>ha o' (oS _ ho'),fun p hp=>by rw [←hk];exact h4 p hp,
          Bm h5 fun p hp e=>h4 p hp (by rw [hk];exact(od e).symm)⟩
    · obtain⟨os',g1,g2⟩:=Fj hd hi (born:=born) hv (i+1) h5 fun o' ho' =>ha o' (oS _ ho')
      rw [bI (fun e=>hk (od e).symm)]at h2
      have hf:Instr.findNow d (kv k) (e::es) i=Instr.findNow d (kv k) es (i+1):=by
        conv=>lhs;unfold Instr.findNow
        rw [h1,sw hd hi,qb (fun e=>hk e.symm)]
      have hm:jS (q::m) k y=q::jS m k y:=by conv=>lhs;unfold jS;rw [bI hk]
      have hap: ∀o' ∈os',∀j,o1.1=some j→o'.1≠some j:=fun o' ho' j hj=>by
        rcases g1 o' ho' with h|rfl
        · exact h3 o' h j hj
        · exact fun e=>ha o1 (oc ..) j e hj
      have hne: ∀p∈jS m k y,p.1≠q.1:=by
        have: ∀m:List (κ×β),(∀p∈m,p.1≠q.1)→ ∀p∈jS m k y,p.1≠q.1:=by
          intro m
          induction m with
          |nil=>intro _ p hp;rw [AW.1 hp];exact fun e=>hk e.symm
          |cons p0 m ih=>
            intro hm p hp
            unfold jS at hp
            split at hp
            · rcases kp.1 hp with rfl|hp
              · exact fun e=>hk e.symm
              · exact hm p (oS _ hp)
            · rcases kp.1 hp with rfl|hp
              · exact hm _ (oc ..)
              · exact ih (fun p hp=>hm p (oS _ hp)) p hp
        exact this m h4
      rw [hf,hm]
      refine⟨o1::os',fun x hx=>?_,g2.imp (fun⟨j,e',f1,f2,f3,f4⟩=>⟨j+1,e',by rw [f1];congr 3;omega,by simpa using f2,f3,?_⟩) fun⟨f1,f2⟩=>⟨f1,?_⟩⟩
      · rcases kp.1 hx with rfl|hx
        · exact .inl (oc ..)
        · exact(g1 x hx).imp (oS _) id
      · rw [Be]
        exact⟨h1,by rw [bI (by simp)];exact h2,hap,hne,f4⟩
      · exact⟨h1,by rw [bI (by simp)];exact h2,hap,hne,f2⟩
theorem Fh{h:Option κ}: ∀{es:List MapEntry} {os:List (Option Nat×Nat)} {m:List (κ×β)},wj V kv w S h es os m→ ∀x∈es,∃q∈m,x.key=kv q.1
 |[],[],[],_,x,hx=>by cases hx
 |e::es,o::os,q::m,⟨h1,_,_,_,h5⟩,x,hx=>by
  rcases kp.1 hx with rfl|hx
  ·exact⟨q,oc ..,h1⟩
  ·obtain⟨q',g1,g2⟩:=Fh h5 x hx
   exact⟨q',oS _ g1,g2⟩
theorem M3(hd: ∀a,MapKept.IsKey d (kv a)){h:Option κ}{es:List MapEntry}{os:List (Option Nat×Nat)}{m:List (κ×β)}(h4:wj V kv w S h es os m)(g1:Instr.findNow d (kv k) es i=some none){x:MapEntry}(hx:x∈es):x.key≠kv k:=by
 rcases MapKept.findNow_spec (hd k) es i (fun y hy=>by obtain⟨q,_,e⟩:=Fh h4 y hy;rw [e];exact hd _)with⟨_,h2⟩|⟨j,e,h2,_⟩
 ·exact h2 x hx
 ·rw [g1]at h2;cases h2
def C7(V:MV β)(kv:κ→Value)(b:Nat)(h:Option κ)(os:List (Option Nat×Nat))(m:List (κ×β)):OE where
 fp:=fun j=>j=b∨ ∃o∈os,o.1=some j
 p:=fun w S=>S b=none∧(∀o∈os,o.1≠some b)∧ ∃es clock,w.heap[b]? =some (.map es clock)∧wj V kv w S h es.toList os m∧MapKept.Stamped es clock
 here:=by
  intro w S ⟨_,_,es,clock,h3,h4,_⟩ j hj
  rcases hj with rfl|⟨o,ho,hj⟩
  ·exact(sr.1 h3).1
  ·exact Fi h4 o ho j hj
 kept:=by
  intro C w w' S S' ⟨h1,h2,es,clock,h3,h4,hst⟩ k hC
  have hlt:=(sr.1 h3).1
  exact⟨by rw [k.old b hlt (hC b (.inl rfl))];exact h1,h2,es,clock,by rw [k.heap b hlt (hC b (.inl rfl))];exact h3,zE k h4 (fun o ho j hj=>hC j (.inr ⟨o,ho,hj⟩)),hst⟩
def pI(b:Nat):Value:= .map (some b)
end
section
variable{κ:Type} [DecidableEq κ]{V:MV β}{kv:κ→Value}{os:List (Option Nat×Nat)}{m:List (κ×β)}{k:κ}{kt et:TypeId}{i v:Operand}{dst:Option Nat}{ty:TypeId}
def Fx(N:Fr)(G:mr)(x:Operand)(u:Value):Prop:= ∀S a,di N S a G→a.eval x=u
theorem sE{N:Fr}{q:IntKind}{n:Int}(h:aL N G x (tD (rI q) n)):Fx N G x (XV q n):=fun S a hf=>fg.1 (h S a hf)
def ZV(P:Program)(T:TypeId)(z:Value):Prop:=(P.info? T).bind (·.zero)=some z
theorem ZV.run{z:Value}(h:ZV P T z)(w:World):(zeroValue T).run P w= .ok z w:=by
 unfold ZV at h
 cases hi:P.info? T with
 |none=>rw [hi]at h;cases h
 |some i=>
  rw [hi]at h
  have h' :i.zero=some z:=h
  simp [zeroValue,typeInfo,hi,h']
theorem DD(V:MV β)(kv:κ→Value)(hd:Nat.blt d E.N.n=true)(k: ∀b,RG E ops Q rest (C7 V kv b none [] []::O) ((d,tV (pI b))::G)):
  RG E ops Q (⟨some d,.makeMap t none,ty,pos,after,none⟩::rest) O G:= .of rfl fun a w S st=>by
 obtain⟨he,hs',hno⟩:=fS (w:=w) (.map #[] 0) st.sat
 have hrun:(execOp a.eval ⟨some d,.makeMap t none,ty,pos,after,none⟩).run E.P w= .ok (.value (pI w.heap.size)) (w.alloc (.map #[] 0)):=by
  simp [execOp,Instr.makeMap,pI]
 refine⟨fun c h=>(by cases h),?_⟩
 rw [hrun]
 exact k w.heap.size _ _ S ⟨st.ext.step0 he,hs',qD st.own he ⟨hno,fun _ h=>(by cases h),#[],0,wp w _,trivial,MapKept.stamped_empty 0⟩ (fun b hb=>by
  rcases hb with rfl|⟨_,h,_⟩
  ·exact gB _
  ·cases h) st.base_le,st.facts.put hd rfl⟩
theorem xH{kk:Value}{es:Array MapEntry}{clock:Nat}{q:TypeDesc}{z:Value}{u:Option (Nat×Value)}(hm:P.underlying t=some (.map kt et))(hq:P.underlying kt=some q)(hk:MapKept.IsKey q kk)(hb:w.heap[b]? =some (.map es clock))(hz:ZV P et z)(hf:Instr.findNow q kk es.toList 0=some u)(c:Bool):(Instr.lookup t (pI b) kk c).run P w= .ok (if c then .tuple #[(u.map (·.2)).getD z,.bool u.isSome]else(u.map (·.2)).getD z) w:=by
 cases u with
 |none=>simp [Instr.lookup,pI,jr hm,G6 hb,Kl hq hk,MapKept.run_findKey hq hf,hz.run,Result.andThen]
 |some r=>simp [Instr.lookup,pI,jr hm,G6 hb,Kl hq hk,MapKept.run_findKey hq hf,Result.andThen]
theorem Al{kk:Value}{es:Array MapEntry}{clock:Nat}{q:TypeDesc}{val:Value}(hm:P.underlying t=some (.map kt et))(hq:P.underlying kt=some q)(hk:MapKept.IsKey q kk)(hb:w.heap[b]? =some (.map es clock)):
  (Instr.findNow q kk es.toList 0=some none→(Instr.mapUpdate t (pI b) kk val).run P w= .ok () {w with heap:=w.heap.setIfInBounds b (.map (es.push ⟨kk,val,clock⟩) (clock+1))})∧
  (∀j e,Instr.findNow q kk es.toList 0=some (some (j,e))→(∀e',es.toList[j]? =some e' →e'.key=kk)→(∃e',es.toList[j]? =some e')→(Instr.mapUpdate t (pI b) kk val).run P w= .ok () {w with heap:=w.heap.setIfInBounds b (.map (es.modify j fun e=>{e with key:=kk,val:=val}) clock)}):=by
 refine⟨fun hf=>?_,fun j e hf hj he=>?_⟩
 ·simp [Instr.mapUpdate,pI,jr hm,G6 hb,Kl hq hk,MapKept.run_findKey hq hf,Ko _ hb,Result.andThen]
 ·obtain⟨e',he'⟩:=he
  have h1:=hj e' he'
  have h2:es[j]? =some e' :=by simpa using he'
  simp [Instr.mapUpdate,pI,jr hm,G6 hb,Kl hq hk,MapKept.run_findKey hq hf,Ko _ hb,Result.andThen,h2,h1,MapKept.run_keyThatStays hk]
theorem MP{y:β}{o:Option Nat×Nat}{val:Value}(hs:jp w S)(hm:E.P.underlying t=some (.map kt et))(hk:LR E.P kt kv)(hp:(C7 V kv b (some k) os m).p w S)(hv:V.p w S y o val)(hob:o.1≠some b)(hap: ∀o' ∈os,∀j,o.1=some j→o'.1≠some j):
  ∃w' os',(Instr.mapUpdate t (pI b) (kv k) val).run E.P w= .ok () w' ∧gW (fun j=>j=b) w S w' S∧jp w' S∧(C7 V kv b none os' (jS m k y)).p w' S∧(∀j,(C7 V kv b none os' (jS m k y)).fp j→(C7 V kv b (some k) os m).fp j∨o.1=some j):=by
 obtain⟨hno,hnb,es,clock,h3,h4,hst⟩:=hp
 obtain⟨q,hq,hdk,hinj⟩:=hk
 obtain⟨os',p1,p2⟩:=Fj hdk hinj (born:=clock) hv 0 h4 hap
 have hnb' : ∀o' ∈os',o'.1≠some b:=fun o' ho' =>by
  rcases p1 o' ho' with h|rfl
  ·exact hnb o' h
  ·exact hob
 have hfp: ∀j,(j=b∨ ∃o∈os',o.1=some j)→(j=b∨ ∃o∈os,o.1=some j)∨o.1=some j:=fun j hj=>by
  rcases hj with h|⟨o',ho',e⟩
  ·exact .inl (.inl h)
  ·rcases p1 o' ho' with h|rfl
   ·exact .inl (.inr ⟨o',h,e⟩)
   ·exact .inr e
 have hw: ∀X:Obj,gW (fun j=>j=b) w S {w with heap:=w.heap.setIfInBounds b X} S∧jp {w with heap:=w.heap.setIfInBounds b X} S∧({w with heap:=w.heap.setIfInBounds b X}:World).heap[b]? =some X:=fun X=>
  ⟨⟨rfl,rfl,rfl,gB _,by simp,fun j _ hj=>(MapKept.heap_set (o' :=X) h3).2 j hj,SH.le_refl _,fun _ _ _=>rfl⟩,hs.same fun j o hj=>(MapKept.heap_set (o' :=X) h3).2 j (fun e=>by subst e;rw [hno]at hj;cases hj),(MapKept.heap_set h3).1⟩
 obtain⟨r1,r2⟩:=Al (val:=val) hm hq (hdk k) h3
 rcases p2 with⟨j,e,g1,g2,g3,g4⟩|⟨g1,g2⟩
 ·rw [pj]at g1
  obtain⟨x1,x2,x3⟩:=hw (.map (es.modify j fun e=>{e with key:=kv k,val:=val}) clock)
  refine⟨_,os',r2 j _ g1 (fun e' he' =>by rw [g2]at he';cases he';exact g3) ⟨_,g2⟩,x1,x2,⟨hno,hnb',_,_,x3,?_,MapKept.stamped_modify hst j _ (fun _ _=>rfl) (fun e' _ he' =>by rw [←Kn,g2]at he';cases he';exact g3.symm)⟩,hfp⟩;refine zE x1 (by rw [Array.toList_modify];exact g4) fun o' ho' j hj e=>?_
  subst e
  exact hnb' o' ho' hj
 ·obtain⟨x1,x2,x3⟩:=hw (.map (es.push ⟨kv k,val,clock⟩) (clock+1))
  refine⟨_,os',r1 g1,x1,x2,⟨hno,hnb',_,_,x3,?_,MapKept.stamped_push hst (fun x hx e=>?_)⟩,hfp⟩
  rotate_left
  ·exact M3 hdk h4 g1 hx e
  refine zE x1 (by rw [Array.toList_push];exact g2) fun o' ho' j hj e=>?_
  subst e
  exact hnb' o' ho' hj
end
end Go.Proofs.YtmogpgcfognefaaGreatDoor

