/- dr of this claim: W12, W13, W14, W16, W17, W18, W19, W20, W22, W23, W24, W25, W26. -/
import Derived.Test.YtnmjbolollcokaaGreatDoorRdV1
import Derived.RangeFuncRecord
import Derived.RangeFuncLeaves
import Derived.Laws.StructEq
import Derived.Lib.ConvBytes
import Derived.Lib.AppendZeros
import Derived.Laws.MakeOwn
set_option linter.all false
namespace Go.Proofs.YtnmjbolollcokaaGreatDoor
open Go

variable{B:Nat→Prop}{O:List OE}{S S' :SH}{b base:Nat}{e:TypeId}{f:FuncId}{k:IntKind}{w w' :World}
theorem pO(h:du base B w S O)(k:gW qq w S w' S'){e:OE}(he:e.p w' S')(hn: ∀b,e.fp b→w.heap.size≤b)(hb:base≤w.heap.size:=by first|assumption|exact St.base_le (by assumption)):du base B w' S' (e::O):=
 ⟨⟨he,fun b hb' => .inl (nf hb (hn b hb'))⟩,fun f hf b hb' hfb=>by
  have:=f.here (du.mem h f hf).1 b hfb
  have:=hn b hb'
  omega,h.ext0 k⟩
def gK(P:Program)(f:FuncId)(ts:List Ty)(mm:Bool){α:Type}(r:Rp α)(T:TypeId)(xs:List α):Prop:=
 ∀w S vs,jU w S→wZ S ts vs→Calls P f vs.toArray w fun e w' => ∃l cap S',e= .returned (aV l cap xs.length)∧gW qq w S w' S' ∧jU w' S' ∧(m6 mm r T l cap xs).holds w.heap.size qq w' S'
variable{T:TypeId}{α:Type}{cap:Nat}{l:Option Nat}{mm:Bool}{p:Operand}{r:Rp α}{xs:List α}
theorem J3(h:(m6 mm r T l cap xs).holds w.heap.size qq w' S')(he:gW qq w S w' S')(hs:jU w' S'):
  ∃S'',gW qq w S w' S'' ∧jU w' S'' ∧(tD (fH r) xs).p S'' (aV l cap xs.length):=by
 have st:St ⟨default,⟨0,[]⟩,qq,w,S,none⟩ [m6 mm r T l cap xs] [] ⟨#[],[]⟩ w' S' :=⟨he,hs,⟨h,fun _ hf=>(by cases hf),trivial⟩,⟨rfl,rfl,fun _ _ h=>(by simp [look]at h)⟩⟩
 obtain⟨S'',h1,h2⟩:=st.settle
 exact⟨S'',h1.ext,h1.sat,h2⟩
variable{P:Program}{ts:List Ty}
theorem gK.spec(h:gK P f ts mm r T xs):bo P f ts (tD (fH r) xs):=fun w S vs hs hv=>
 (h w S vs hs hv).mono fun e w' ⟨l,cap,S',he,h1,h2,h3⟩=>by
  obtain⟨S'',h4,h5,h6⟩:=J3 h3 h1 h2
  exact⟨_,S'',he,h4,h5,h6⟩
def Va(E:En)(mm:Bool){α:Type}(r:Rp α)(T:TypeId)(xs:List α):Ending→World→Prop:=fun e w' => ∃l cap S',e= .returned (aV l cap xs.length)∧gW E.B E.w0 E.S0 w' S' ∧jU w' S' ∧(m6 mm r T l cap xs).holds E.w0.heap.size E.B w' S'
variable{N:Nat}{S0:SH}{c:Code}{fn:Func}{n:Nat}{w0:World}
theorem gK.of(hf:P.funcs[f]? =some fn)(hb:fn.body=some c)(hN:fn.ntmps=N)(hn:Nat.ble ts.length N=true)(h: ∀w0 S0,CG ⟨P,⟨N,[]⟩,qq,w0,S0,none⟩ (bodyPost P fn (Va ⟨P,⟨N,[]⟩,qq,w0,S0,none⟩ mm r T xs)) c [] (uT 0 ts)):gK P f ts mm r T xs:=by
 subst hN
 intro w S vs hs hv
 exact lj.1 (Dg (F:=fw none) (n:=0) hf hb trivial (h w S _ w S ⟨gF _ _ _,hs,trivial,oN hv _ (pT hn)⟩))
variable{E:En}{G:mz}{Q:Exit→Act→World→Prop}{a:Act}{after:Array Edge}{agg:Bool}{ats:Array TypeId}{bytes d off:Nat}{ops:Array Oper}{pos:String}{rest:List Oper}{sz:Nat}{t:TypeId}{x:Operand}{ys:List α}{z:List Value}
section
theorem jd{k:Nat}(hr:fn.results= #[.tmp k])(hk:look G k=some (tV (aV l cap n)))(hn:n=xs.length:=by rfl):
  AT ⟨P,⟨N,[]⟩,B,w0,S0,none⟩ (bodyPost P fn (Va ⟨P,⟨N,[]⟩,B,w0,S0,none⟩ mm r T xs)) .ret (m6 mm r T l cap xs::O) G:=fun a w S st=>by
 subst hn
 have hv:a.tmps.getD k undef=aV l cap xs.length:=st.facts.at_ k _ hk
 exact⟨st.facts.defers,_,lC P fn k hr _ _,l,cap,S,by rw [hv],st.ext,st.sat,st.own.1⟩
theorem Ms{k:Nat}(hr:fn.results= #[.tmp k])(hk:look G k=some (tO r l cap xs)):
  AT ⟨P,⟨N,[]⟩,B,w0,S0,none⟩ (bodyPost P fn (Va ⟨P,⟨N,[]⟩,B,w0,S0,none⟩ true r T xs)) .ret (tip r T l cap xs::O) G:=fun a w S st=>by
 have hv:a.tmps.getD k undef=aV l cap xs.length:=(st.facts.at_ k _ hk).1
 exact⟨st.facts.defers,_,lC P fn k hr _ _,l,cap,S,by rw [hv],st.ext,st.sat,st.own.1⟩
section
variable{ty:TypeId}
theorem Gh{xs:List Operand}{u:Nat→Option Nat→Ty}(hc:av E.P f=true)(hs:gK E.P f ts mm r T ys)(hx:jE E.N G xs ts)(hd:Nat.blt d E.N.n=true)(hu: ∀l cap w0 S,(m6 mm r T l cap ys).p w0 S→(u cap l).p S (aV l cap ys.length))(k: ∀l cap,RG E ops Q rest (m6 mm r T l cap ys::O) ((d,u cap l)::G)):
  RG E ops Q (⟨some d,.call ⟨.value (.func f),xs.toArray,ats⟩,ty,pos,after,none⟩::rest) O G:= .of rfl fun a w S st=>by
 have hr:(execOp a.eval ⟨some d,.call ⟨.value (.func f),xs.toArray,ats⟩,ty,pos,after,none⟩).run E.P w= .ok (.enter f (xs.map a.eval).toArray) w:=by
  simp [execOp,resolve,Act.eval,Deferred.ofValue,invoke,gL hc]
 refine⟨fun c h=>(by cases h),?_⟩
 rw [hr]
 refine(hs w S _ st.sat (hx.tys st.facts)).mono fun e w' ⟨l,cap,S',he,h1,h2,h3⟩=>⟨_,he,?_⟩;refine k l cap _ _ S' ⟨st.ext.step0 h1,h2,pO st.own h1 h3.1 (fun b hb=>(h3.2 b hb).resolve_right id) st.base_le,(st.facts.mono h1.keep).put hd (hu l cap w' S' h3.1)⟩
theorem lY{xs:List Operand}(hc:av E.P f=true)(hs:gK E.P f ts false r T ys)(hx:jE E.N G xs ts)(hd:Nat.blt d E.N.n=true)(k: ∀l cap,RG E ops Q rest (ga r T l cap ys::O) ((d,tV (aV l cap ys.length))::G)):
  RG E ops Q (⟨some d,.call ⟨.value (.func f),xs.toArray,ats⟩,ty,pos,after,none⟩::rest) O G:=Gh (u:=fun cap l=>tV (aV l cap ys.length)) hc hs hx hd (fun _ _ _ _ _=>rfl) k
theorem Jq{xs:List Operand}(hc:av E.P f=true)(hs:gK E.P f ts true r T ys)(hx:jE E.N G xs ts)(hd:Nat.blt d E.N.n=true)(k: ∀l cap,RG E ops Q rest (tip r T l cap ys::O) ((d,tO r l cap ys)::G)):
  RG E ops Q (⟨some d,.call ⟨.value (.func f),xs.toArray,ats⟩,ty,pos,after,none⟩::rest) O G:=Gh (u:=fun cap l=>tO r l cap ys) hc hs hx hd (fun _ _ _ _ h=>⟨rfl,nE h⟩) k
theorem jT{xs:List Operand}{parts:List (Nat×Operand)}(ht:E.P.underlying t=some (.slice T))(ti:TI E.P T sz bytes agg z)(hsz:r.sz=sz)(h0:Nat.blt 0 sz=true)(hp:parts=wP 0 xs)(hn:n=ys.length)(hb:Nat.ble (n*sz) 16777216=true)(hx:jE E.N G xs (ys.map (tD r)))(hd:Nat.blt d E.N.n=true)(k: ∀l cap,RG E ops Q rest (ga r T l cap ys::O) ((d,tV (aV l cap ys.length))::G)):
  RG E ops Q (⟨some d,.buildSlice t n parts.toArray,ty,pos,after,none⟩::rest) O G:= .of rfl fun a w S st=>by
 obtain⟨cs,hc,hr⟩:=tY ht ti hsz hn hb (hx.tys st.facts) w
 subst hsz
 subst hp
 have hb' :=pT hb
 have h0' :0<r.sz:=by simpa [u9] using h0
 have hnle:n≤n*r.sz:=Nat.le_mul_of_pos_right n h0'
 have hcl:=n8 hc
 obtain⟨he,hs',hno⟩:=f9 (w:=w) (.cells cs.toArray T (0,0)) st.sat
 have hrun:(execOp a.eval ⟨some d,.buildSlice t n (wP 0 xs).toArray,ty,pos,after,none⟩).run E.P w= .ok (.value (.slice (some ⟨w.heap.size,0,none⟩) n n)) (w.alloc (.cells cs.toArray T (0,0))):=by
  simp only [execOp,qV,hr,rY,BY]
 refine⟨fun c h=>(by cases h),?_⟩
 rw [hrun]
 refine k (some w.heap.size) n _ _ S ⟨st.ext.step0 he,hs',pO st.own he ⟨cs,⟨cs.toArray,Cx w _,by omega,by simp only [maxLen];omega,by simp [hcl,hn],by simp [←hcl]⟩,hc,fun b hb=>by rw [←po hb];exact hno⟩ (fun b hb=>yR (po hb)) st.base_le,st.facts.put hd ?_⟩
 ·show _=aV _ _ _
  rw [←hn];rfl
theorem vJ{yt:TypeId}(ht:E.P.underlying t=some (.slice e))(hx:aZ E.N G x (tD (fH r) xs))(hd:Nat.blt d E.N.n=true)(k: ∀b,(b=true→xs=[])→RG E ops Q rest O ((d,tD rB b)::G)):RG E ops Q (⟨some d,.binOp .eql t x (.const (.slice none 0 0)) yt,ty,pos,after,none⟩::rest) O G:= .of rfl fun a w S st=>by
 obtain⟨ad,cap,h1,_,_,h2⟩:=n6.1 (hx S a st.facts)
 have hrun:(execOp a.eval ⟨some d,.binOp .eql t x (.const (.slice none 0 0)) yt,ty,pos,after,none⟩).run E.P w= .ok (.value (.bool ad.isNone)) w:=by
  have h3:(Op.equal t (.slice ad xs.length cap) (.slice none 0 0)).run E.P w= .ok ad.isNone w:=CY fun d=>by
   cases ad<;>simp [Op.equalIn,kH ht]
  have hcn:a.eval (.const (.slice none 0 0))= .slice none 0 0:=rfl
  simp [execOp,h1,hcn,eqGuard,binOp,h3]
 refine⟨fun c h=>(by cases h),?_⟩
 rw [hrun]
 refine k ad.isNone (fun e=>?_) _ _ S (st.step (gF _ _ _) st.sat hd (ju.2 rfl))
 rcases h2 with h2|⟨b,off,c,T,fr,e1,_⟩
 ·exact h2
 ·subst e1;cases e
end
end

def aM(b off:Nat):Value:= .pointer (some ⟨b,off,none⟩)
def bx{α:Type}(r:Rp α)(T:TypeId)(b:Nat)(x:α):OE where
 fp:=fun k=>k=b
 p:=fun w S=>S b=none∧ ∃c,w.heap[b]? =some (.cells c T (0,0))∧r.rc S c.toList x
 here:=by
  intro w S h k hk
  subst hk
  obtain⟨h1,c,h2,_⟩:=h
  exact(vd.1 h2).1
 kept:=by
  intro C w w' S S' h k hC
  obtain⟨h1,c,h2,h3⟩:=h
  have hlt:=(vd.1 h2).1
  exact⟨by rw [k.old b hlt (hC b rfl)];exact h1,c,by rw [k.heap b hlt (hC b rfl)];exact h2,r.mono k.keep h3⟩
def rV:Rp Value where
 sz:=1
 agg:=false
 rc:=fun _ cs v=>cs=[v]∧v.oneCell' =true
 mono:=fun _ h=>h
 len:=fun h=>by rw [h.1];rfl
 one:=fun h c hc=>by rw [h.1]at hc;simp at hc;subst hc;exact h.2
 sc:=fun _=>rfl
theorem vY{u:Value}{v:Value}:(tD rV u).p S v↔v=u∧u.oneCell' =true:=by
 constructor
 ·rintro⟨cs,rfl,h1,h2⟩;subst h1;exact⟨rfl,h2⟩
 ·rintro⟨rfl,h⟩;exact⟨[v],rfl,rfl,h⟩
def gu{α β:Type}(r:Rp α)(off:Nat)(q:Rp β)(set:α→β→α):Prop:= ∀S cs x ds y,r.rc S cs x→q.rc S ds y→r.rc S (cs.take off++ds++cs.drop (off+q.sz)) (set x y)
variable{U:TypeId}{dst:Option Tmp}{g:Option (Nat×Bool)}{β:Type}{get:α→β}{i:Nat}{o:Oper}{q:Rp β}{y:α}
section
variable{e:Exit}
theorem St.settleB{k:Nat}{x:α}(h:St E (bx r T b x::O) G a w S)(hk:look G k=some (tV (aM b 0))): ∃S',St E O ((k,bt r x)::G) a w S' :=by
 obtain⟨⟨hn,cur,h3,h4⟩,_⟩:=h.own.1
 obtain⟨h8,hle,_,_⟩:=DF h rfl h3 (xG _) hn
 have hv:a.tmps.getD k undef=aM b 0:=h.facts.at_ k _ hk
 refine⟨_,h8.cons ⟨b,0,cur,T,(0,0),hv,by simp [SH.set],?_⟩⟩
 have hl:cur.size=r.sz:=by have:=r.len h4;simpa using this
 have:=r.mono hle h4
 rw [sM,rZ (by simp [hl])];exact this
theorem bh{x:α}(k:Nat)(hk:look G k=some (tV (aM b 0)))(h:RG E ops Q rest O ((k,bt r x)::G)):RG E ops Q rest (bx r T b x::O) G:=
 fun a w _ st=>let⟨S',st'⟩:=st.settleB hk;h a w S' st'
theorem bH{x:α}(k:Nat)(hk:look G k=some (tV (aM b 0)))(h:AT E Q e O ((k,bt r x)::G)):AT E Q e (bx r T b x::O) G:=
 fun a w _ st=>let⟨S',st'⟩:=st.settleB hk;h a w S' st'
section
variable{ty:TypeId}
theorem bj{x:α}(ti:TI E.P T sz bytes agg z)(hx: ∀S,r.rc S z x)(hd:Nat.blt d E.N.n=true)(k: ∀b,RG E ops Q rest (bx r T b x::O) ((d,tV (aM b 0))::G)):RG E ops Q (⟨some d,.alloc T,ty,pos,after,none⟩::rest) O G:= .of rfl fun a w S st=>by
 obtain⟨zv,hzr,hzc⟩:=ti.zero w
 obtain⟨he,hs',hno⟩:=f9 (w:=w) (.cells z.toArray T (0,0)) st.sat
 have hrun:(execOp a.eval ⟨some d,.alloc T,ty,pos,after,none⟩).run E.P w= .ok (.value (aM w.heap.size 0)) (w.alloc (.cells z.toArray T (0,0))):=by
  simp [execOp,Instr.alloc,hzr,newVar,newRow,hzc,aM]
 refine⟨fun c h=>(by cases h),?_⟩
 rw [hrun]
 exact k w.heap.size _ _ S ⟨st.ext.step0 he,hs',pO st.own he ⟨hno,z.toArray,Cx w _,by simpa using hx S⟩ (fun b hb=>yR hb.symm) st.base_le,st.facts.put hd rfl⟩
theorem kO{v:α}(hx:aZ E.N G x (tD r v))(hd:Nat.blt d E.N.n=true)(k: ∀b,RG E ops Q rest (bx r T b v::O) ((d,tV (aM b 0))::G)):RG E ops Q (⟨some d,.box T x,ty,pos,after,none⟩::rest) O G:= .of rfl fun a w S st=>by
 obtain⟨cs,hv,hc⟩:=hx S a st.facts
 obtain⟨he,hs',hno⟩:=f9 (w:=w) (.cells cs.toArray T (0,0)) st.sat
 have hrun:(execOp a.eval ⟨some d,.box T x,ty,pos,after,none⟩).run E.P w= .ok (.value (aM w.heap.size 0)) (w.alloc (.cells cs.toArray T (0,0))):=by
  simp [execOp,Instr.box,newVar,newRow,hv,vx hc,aM]
 refine⟨fun c h=>(by cases h),?_⟩
 rw [hrun]
 exact k w.heap.size _ _ S ⟨st.ext.step0 he,hs',pO st.own he ⟨hno,cs.toArray,Cx w _,by simpa using hc⟩ (fun b hb=>yR hb.symm) st.base_le,st.facts.put hd rfl⟩
theorem rk(hs:jU w S)(f f' :OE)(h:du base B w S (f::O))(hf: ∀k,f.fp k↔k=b)(hf' : ∀k,f'.fp k↔k=b)(hg:w'.os=w.os∧w'.tape=w.tape∧w'.output=w.output∧w'.heap.size=w.heap.size∧w.drawn≤w'.drawn)(ho: ∀k,k≠b→w'.heap[k]? =w.heap[k]?)(hp:f'.p w' S)(hno:S b=none):gW (fun k=>k=b) w S w' S∧jU w' S∧du base B w' S (f' ::O):=by
 have hext:gW (fun k=>k=b) w S w' S:=⟨hg.1,hg.2.1,hg.2.2.1,hg.2.2.2.2,by omega,fun k _ hk=>ho k hk,SH.le_refl _,fun _ _ _=>rfl⟩
 refine⟨hext,hs.same fun k o hk=>?_,⟨hp,fun k hk=>h.1.2 k ((hf k).2 ((hf' k).1 hk))⟩,fun g hgm k hk=>h.2.1 g hgm k ((hf k).2 ((hf' k).1 hk)),h.2.2.ext hext fun g hgm k hk hkb=>h.2.1 g hgm k ((hf k).2 hkb) hk⟩
 have hne:k≠b:=fun e=>by subst e;rw [hno]at hk;cases hk
 exact ho k hne
theorem lB{q:Rp α}(ti:TI P U sz bytes agg z)(hsz:q.sz=sz){ds:List Value}(hy:q.rc S ds y){cur:Array Value}(hg:w.heap[b]? =some (.cells cur T (0,0)))(hfit:off+q.sz≤cur.size):
  ∃w',(storeVar U ⟨b,off,none⟩ (q.val ds)).run P w= .ok () w' ∧w'.os=w.os∧w'.tape=w.tape∧w'.output=w.output∧(w'.heap.size=w.heap.size∧w.drawn≤w'.drawn)∧w'.heap[b]? =some (.cells (cur.toList.take off++ds++cur.toList.drop (off+q.sz)).toArray T (0,0))∧ ∀k,k≠b→w'.heap[k]? =w.heap[k]? :=by
 have hl:=q.len hy
 have hst:=run_storeCells_at P b off T ds 0 cur w hg (by omega) (q.one hy)
 simp only [yD]at hst
 refine⟨w.setRow b (cur.toList.take off++ds++cur.toList.drop (off+ds.length)).toArray,?_,rfl,rfl,rfl,⟨?_,eW _⟩,?_,fun k hk=>setRow_other w b k _ hk⟩
 ·generalize (cur.toList.take off++ds++cur.toList.drop (off+ds.length)).toArray=X at hst ⊢
  simp only [storeVar,qV,ti.sizeOf,rY,vx hy,Fa,hl,hsz]
  simp only [ne_eq,not_true_eq_false,ji]
  simpa using hst
 ·simp [World.setRow]
 ·rw [setRow_heap w b cur _ T _ hg,←hl]
theorem ai{set:α→β→α}{x:α}{y:β}{v:Operand}(ti:TI E.P U sz bytes agg z)(hsz:q.sz=sz)(hset:gu r off q set)(hoff:Nat.ble (off+q.sz) r.sz=true)(hp:aZ E.N G p (tV (aM b off)))(hv:aZ E.N G v (tD q y))(k:RG E ops Q rest (bx r T b (set x y)::O) G):RG E ops Q (⟨none,.store U p v,ty,pos,after,none⟩::rest) (bx r T b x::O) G:= .of rfl fun a w S st=>by
 have h1:a.eval p=aM b off:=hp S a st.facts
 obtain⟨ds,h2,h3⟩:=hv S a st.facts
 obtain⟨⟨hno,cur,h5,h6⟩,_⟩:=st.own.1
 have hl:=r.len h6
 have hoff' :=pT hoff
 obtain⟨w',hr,e1,e2,e3,e4,e5,e6⟩:=lB ti hsz h3 h5 (off:=off) (by simp at hl;omega)
 have hrun:(execOp a.eval ⟨none,.store U p v,ty,pos,after,none⟩).run E.P w= .ok .skip w' :=by
  simp [execOp,h1,h2,Instr.storeAt,aM,Instr.sureAddr,hr]
 refine⟨fun c h=>(by cases h),?_⟩
 rw [hrun]
 obtain⟨g1,g2,g3⟩:=rk (O:=O) st.sat (bx r T b x) (bx r T b (set x y)) st.own (fun _=>Iff.rfl) (fun _=>Iff.rfl) ⟨e1,e2,e3,e4.1,e4.2⟩ e6 ⟨hno,_,e5,by simpa using hset S _ _ _ _ h6 h3⟩ hno
 exact k _ _ S ⟨st.ext.step g1 (fun c hc=>st.own.1.2 c hc),g2,g3,st.facts⟩
theorem aj:gu r 0 r (fun _ y=>y):=fun S cs x ds y h1 h2=>by
 have hl:=r.len h1
 simpa [←hl] using h2
end
section
variable{ty:TypeId}
theorem EW{o:Nat}(hf:cB E.P T i=some (off,sz))(h0:Nat.beq sz 0=false)(hp:aZ E.N G p (tV (aM b o))):cH E O G ⟨dst,.fieldAddr T p i,ty,pos,after,g⟩ (tV (aM b (o+off))):=
 .of_pure fun a w S _ _ hF=>by
  have h1:a.eval p=aM b o:=hp S a hF
  obtain⟨fs,f,e1,e2,e3,e4⟩:=Bs hf
  have h0' :sz≠0:=fun e=>by subst e;simp at h0
  refine⟨aM b (o+off),?_,rfl⟩
  simp [execOp,h1,aM,Instr.fieldAt,kH e1,e2,Instr.sureAddr,fieldPlace,e4,h0',e3,jS]
theorem aA{x:α}(ti:TI E.P U sz bytes agg z)(hsz:q.sz=sz)(hag:q.agg=agg)(hget:m9 r off q get)(hm:bx r T b x∈O)(hp:aZ E.N G p (tV (aM b off))):
  cH E O G ⟨dst,.load U p,ty,pos,after,g⟩ (tD q (get x)):=
 .of_pure fun a w S _ ho hf=>by
  have h1:a.eval p=aM b off:=hp S a hf
  obtain⟨⟨_,cur,h5,h6⟩,_⟩:=ho.mem _ hm
  have h7:=hget S _ _ h6
  refine⟨_,?_,_,rfl,h7⟩
  simp [execOp,h1,aM,Instr.loadAt,Instr.sureAddr,la ti h5 hsz hag h7]
theorem aR:m9 r 0 r (fun x=>x):=fun S cs x h=>by
 have hl:=r.len h
 simpa [←hl] using h
end
end

theorem dg{p:Rp α}:gu (cN p q) 0 p (fun x y=>(y,x.2)):=fun S cs x ds y h k=>by
 obtain⟨a,b,e,h1,h2⟩:=h
 have hl:=p.len h1
 refine⟨ds,b,?_,k,h2⟩
 rw [e,←hl];simp
variable{γ:Type}{s:Rp γ}
theorem aX{p:Rp α}{off' :Nat}{u:β→γ→β}(h:gu q off s u)(ho:off' =p.sz+off):gu (cN p q) off' s (fun x y=>(x.1,u x.2 y)):=fun S cs x ds y hx hy=>by
 obtain⟨a,b,e,h1,h2⟩:=hx
 have hl:=p.len h1
 refine⟨a,b.take off++ds++b.drop (off+s.sz),?_,h1,h S b x.2 ds y h2 hy⟩
 rw [e,ho,←hl,List.take_length_add_append,show a.length+off+s.sz=a.length+(off+s.sz)from by omega,List.drop_length_add_append]
 simp
theorem cn{p:Rp α}{q:Rp γ}{u:α→γ→α}{f:β→α}{set:β→γ→β}(h:gu p off q u)(hf: ∀x y,f (set x y)=u (f x) y):gu (nd p f) off q set:=fun S cs x ds y hx hy=>by
 show p.rc S _ (f (set x y))
 rw [hf]
 exact h S cs (f x) ds y hx hy
def jO(P:Program)(T:TypeId):Option (List (Nat×Nat)):=
 match P.underlying T with
 |some (.struct fs)=>fs.toList.mapM fun f=>(P.info? f.type).map fun q=>(f.offset,q.size)
 |_=>none
theorem DG{P:Program}: ∀(fs:List Field) (ps:List (Nat×Nat)) (w:World),fs.mapM (fun f=>(P.info? f.type).map fun q=>(f.offset,q.size))=some ps→
  (fs.mapM (fun f=>do pure (f.offset,←sizeOf f.type):Field→Sem (Nat×Nat))).run P w= .ok ps w
 |[],ps,w,h=>by
  simp at h;subst h
  simp
 |f::fs,ps,w,h=>by
  simp only [List.mapM_cons]at h ⊢
  cases hq:P.info? f.type with
  |none=>simp [hq]at h
  |some q=>
   cases hr:fs.mapM (fun f=>(P.info? f.type).map fun q=>(f.offset,q.size))with
   |none=>simp [hq,hr]at h
   |some qs=>
    simp [hq,hr]at h
    subst h
    have ih:=DG fs qs w hr
    simp [sizeOf,typeInfo,hq]at ih ⊢
    simp [ih]
section
variable{ty:TypeId}
def BP(E:En)(G:mz){α:Type}(r:Rp α)(ps:List (Nat×Nat)):α→List (Nat×Operand)→α→Prop
 |x,[],y=>x=y
 |x,(i,o)::rest,y=> ∃(β:Type) (q:Rp β) (set:α→β→α) (off:Nat) (v:β),ps[i]? =some (off,q.sz)∧gu r off q set∧Nat.ble (off+q.sz) r.sz=true∧aZ E.N G o (tD q v)∧BP E G r ps (set x v) rest y
theorem Ed{α:Type}{r:Rp α}{ps:List (Nat×Nat)}{S:SH}{a:Act}(hF:dr E.N S a G): ∀(parts:List (Nat×Operand)) (x y:α) (cs:List Value),BP E G r ps x parts y→r.rc S cs x→
  ∃ds,r.rc S ds y∧Instr.fill (ps.toArray[·]?) cs.toArray (parts.map fun p=>(p.1,a.eval p.2))=some ds.toArray
 |[],x,y,cs,h,hx=>by
  have e:x=y:=h
  subst e
  exact⟨cs,hx,rfl⟩
 |(i,o)::rest,x,y,cs,⟨β,q,set,off,v,h1,h2,h3,h4,h5⟩,hx=>by
  obtain⟨c,hv,hc⟩:=h4 S a hF
  have hl:=q.len hc
  have hlr:=r.len hx
  have h3' :=pT h3
  have hcells:(a.eval o).cells=c.toArray:=by rw [hv];exact vx hc
  obtain⟨ds,h6,h7⟩:=Ed hF rest _ y _ h5 (h2 S cs x c v hx hc)
  refine⟨ds,h6,?_⟩
  have hps:ps.toArray[i]? =some (off,q.sz):=by simpa using h1
  have hs:(a.eval o).cells.size=q.sz:=by rw [hcells];simpa using hl
  have h8:=Ah (a.eval o) off (cs.take off) ((cs.drop off).take q.sz) (cs.drop (off+q.sz)) (by rw [hs];simp;omega) (by simp;omega)
  have e1:cs.take off++(cs.drop off).take q.sz++cs.drop (off+q.sz)=cs:=by
   rw [iS,←va,vb,vb]
  rw [e1]at h8
  simp only [yE,Instr.fill,hps]
  rw [bM (by simp [hs,hlr];omega),h8,hcells]
  simpa using h7
theorem cm{x:α}{parts:List (Nat×Operand)}{ps:List (Nat×Nat)}(ti:TI E.P T sz bytes agg z)(hp:jO E.P T=some ps)(hz: ∀S,r.rc S z x)(hb:BP E G r ps x parts y)(ha:r.agg=true:=by rfl):
  cH E O G ⟨dst,.build T parts.toArray,ty,pos,after,g⟩ (tD r y):=
 .of_pure fun a w S _ _ hF=>by
  obtain⟨zv,hzr,hzc⟩:=ti.zero w
  obtain⟨ds,h1,h2⟩:=Ed hF parts x y z hb (hz S)
  unfold jO at hp
  split at hp
  ·rename_i fs hu
   have hpl:=DG fs.toList ps w hp
   have hpl2:(fs.mapM (fun f=>do pure (f.offset,←sizeOf f.type):Field→Sem (Nat×Nat))).run E.P w= .ok ps.toArray w:=by
    have hfs:fs=fs.toList.toArray:=by simp
    generalize fs.toList=l at hfs hpl
    subst hfs
    rw [List.mapM_toArray,Sem.run_map,hpl]
    rfl
   refine⟨.agg ds.toArray,?_,ds,(td ha ds).symm,h1⟩
   simp only [execOp,Instr.build,qV,hzr,rY,kH hu,hpl2,hzc]
   have hm:(parts.toArray.map fun(i,x)=>(i,a.eval x)).toList=parts.map fun p=>(p.1,a.eval p.2):=by simp
   rw [hm,h2]
   simp
  ·cases hp
end
section
theorem dF{k:Nat}{x:α}(hr:fn.results= #[.cell k T])(ti:TI P T sz bytes agg z)(hsz:r.sz=sz)(hag:r.agg=agg)(hk:look G k=some (bt r x)):
  AT ⟨P,⟨N,[]⟩,B,w0,S0,none⟩ (bodyPost P fn (I8 ⟨P,⟨N,[]⟩,B,w0,S0,none⟩ (tD r x))) .ret O G:=fun a w S st=>by
 obtain⟨b,off,c,U,fr,h1,h2,h3⟩:=st.facts.at_ k _ hk
 obtain⟨c',h4,h5⟩:=st.sat.part h2 (r.len h3)
 rw [←h5]at h3
 refine⟨st.facts.defers,r.val ((c'.toList.drop off).take r.sz),?_,_,S,rfl,st.ext,st.sat,_,rfl,h3⟩
 have hl:=la ti h4 hsz hag h3
 have h1' :a.tmps[k]?.getD undef=Value.pointer (some ⟨b,off,none⟩):=by simpa [Gv] using h1
 simp [results,hr,h1',asAddr,hl]
end

def n7(L:List Oper):Nat→Nat→Nat→Bool
 |0,_,_=>false
 |n+1,i,j=>match L[i]? with
  |some o=>o.after.toList.any fun e=>Region.binds .any e&&(Nat.beq e.on j||n7 L n e.on j)
  |none=>false
def wE(L:List Oper)(m:Nat):Bool:=(List.range m).all fun j=>n7 L L.length m j
def yW(L:List Oper)(n k:Nat):Bool:=(List.range k).all fun m=>wE L (n+m)&&(match L[n+m]? with|some o=>fD (n+m) o&&o.guard.isNone|none=>false)
variable{L:List Oper}{done:Array Bool}{hi j:Int}
theorem gO{L:List Oper}{done:Array Bool}(down: ∀j o,L[j]? =some o→done.getD j false=true→ ∀e∈o.after,Region.binds .any e=true→done.getD e.on false=true):
  ∀(n i j:Nat),(∀o,L[i]? =some o→ ∀e∈o.after,Region.binds .any e=true→done.getD e.on false=true)→n7 L n i j=true→done.getD j false=true
 |0,_,_,_,h=>by cases h
 |n+1,i,j,hi,h=>by
  unfold n7 at h
  cases ho:L[i]? with
  |none=>rw [ho]at h;cases h
  |some o=>
   rw [ho]at h
   obtain⟨e,he0,hb⟩:=Cy.1 h
   have he:e∈o.after:=by simpa using he0
   rw [lH,xa]at hb
   have hd:=hi o ho e he hb.1
   rcases hb.2 with h1|h1
   ·rw [←pj h1];exact hd
   ·exact gO down n e.on j (fun p hp=>down e.on p hp hd) h1
theorem DJ.stepT{l:List Oper}(h:DJ E O G l ts done a w S){t:Ty}{v:Value}(hi:l[i]? =some o)(hd:o.dst=some d)(hdN:d<E.N.n)(hs2: ∀j p,l[j]? =some p→done.getD j false=true→p.dst=some d→i=j)(hwait: ∀e∈o.after,Region.binds .any e=true→done.getD e.on false=true)(ht:ts[i]? =some t)(hun:done.getD i true=false)(hext:gW qq w S w' S')(hsat:jU w' S')(hv:t.p S' v):DJ E O G l ts (done.setIfInBounds i true) (a.put o.dst v) w' S' :=by
 have hda:d<a.tmps.size:=by rw [h.size];exact hdN
 have hlt:i<done.size:=by rw [h.dsz];exact(qW.1 hi).1
 have hset: ∀j,(done.setIfInBounds i true).getD j false=true→j=i∨done.getD j false=true:=fun j hj=>by
  by_cases hij:i=j
  ·exact .inl hij.symm
  ·rw [vw false hij]at hj;exact .inr hj
 have hseti:(done.setIfInBounds i true).getD i false=true:=by simp [hlt]
 have hun' :done.getD i false=false:=by simp [hlt]at hun ⊢;exact hun
 refine⟨h.ext.step0 hext,hsat,h.own.ext0 hext,?_,?_,by simp [h.dsz],fun j p hj hdone e he hb=>?_,fun k u hk hno=>?_,fun j p d' u hj hdone hd' hu=>?_⟩
 ·rw [hd];simp [Act.put,h.size]
 ·rw [hd];exact h.defers
 ·rcases hset j hdone with rfl|hj'
  ·rw [hi]at hj
   have:o=p:=by simpa using hj
   subst this
   exact vR (hwait e he hb)
  ·exact vR (h.down j p hj hj' e he hb)
 ·have hne:d≠k:=fun e=>hno i o hi hseti (by rw [hd,e])
  rw [hd,rM hda,bM hne]
  exact u.mono hext.keep (h.old k u hk fun j p hj hdone=>hno j p hj (vR hdone))
 ·rw [hd,rM hda]
  rcases hset j hdone with rfl|hj'
  ·rw [hi]at hj
   have:o=p:=by simpa using hj
   subst this
   rw [hd]at hd'
   have:d=d' :=by simpa using hd'
   subst this
   rw [bS rfl]
   rw [ht]at hu
   have:t=u:=by simpa using hu
   subst this
   exact hv
  ·have hne:d≠d' :=fun e=>by
    subst e
    have:=hs2 j p hj hj' hd'
    subst this
    rw [hj']at hun';cases hun'
   rw [bM hne]
   exact u.mono hext.keep (h.new j p d' u hj hj' hd' hu)
theorem pc(h:i<done.size):done.getD i true=done.getD i false:=by simp [h]
theorem uD(h:mb done=0)(hi:i<done.size):done.getD i false=true:=by
 unfold mb at h
 rw [List.countP_eq_zero]at h
 have h2:done[i]∈done.toList:=by simp
 have:=h _ h2
 rw [←pc hi]
 simpa [hi] using this
theorem zn{r:Option Nat}(hc: ∀m o,n≤m→L[m]? =some o→wE L m=true)(hedge: ∀m o,L[m]? =some o→fD m o=true):
  ∀(rest:List Oper) (m:Nat) (done:Array Bool) (fuel:Nat) (a:Act) (w:World),n≤m→L.drop m=rest→done.size=L.length→(∀j,j<L.length→(done.getD j false=true↔j<m))→mb done=fuel→
   wpListIn (fw r) 0 P L.toArray Q rest a w→wpAnyIn (fw r) 0 P .any L.toArray Q fuel done a w:=by
 intro rest
 induction rest with
 |nil=>
  intro m done fuel a w hnm hdrop hsz hdone hu h
  have hlen:L.length≤m:=zY.1 hdrop
  have hr:Region.ready .any L.toArray done=[]:=by
   cases hr:Region.ready .any L.toArray done with
   |nil=>rfl
   |cons i r=>
    have hm:i∈Region.ready .any L.toArray done:=by rw [hr];exact iA ..
    obtain⟨hun,o,ho,_⟩:=tR.1 hm
    have hi:i<L.length:=by simpa using (vd.1 ho).1
    have:=(hdone i hi).2 (by omega)
    rw [pc (by omega)]at hun
    rw [hun]at this;cases this
  cases fuel with
  |zero=>exact⟨hr,h⟩
  |succ f=>exact⟨fun _=>h,fun i hi=>by rw [hr]at hi;cases hi⟩
 |cons o rest ih=>
  intro m done fuel a w hnm hdrop hsz hdone hu h
  have hm:m<L.length:=by
   rcases lu m L.length with h' |h'
   ·exact h'
   ·rw [zY.2 h']at hdrop;cases hdrop
  have hLm:L[m]? =some o:=by
   have:=xb (xs:=L) (i:=m) (j:=0)
   rw [hdrop]at this
   simpa using this.symm
  have hmu:done.getD m true=false:=by
   have hnot: ¬(done.getD m false=true):=fun h2=>by have:=(hdone m hm).1 h2;omega
   rw [pc (by omega)]
   exact zW _▸hnot
  have honly: ∀i∈Region.ready .any L.toArray done,i=m:=by
   intro i hi
   obtain⟨hun,p,hp,hwait⟩:=tR.1 hi
   have hp' :L[i]? =some p:=by simpa using hp
   have hil:i<L.length:=(qW.1 hp').1
   have hid: ¬i<m:=fun hlt=>by
    have h2:=(hdone i hil).2 hlt
    rw [pc (by omega)]at hun
    rw [hun]at h2;cases h2
   rcases lu m i with hlt|hge
   ·exfalso
    have hcov:=hc i p (by omega) hp'
    unfold wE at hcov
    have hre:=pi.1 hcov m (by simpa using hlt)
    have:done.getD m false=true:=by
     refine gO (L:=L) (done:=done) (fun j q hj hjd e he hb=>?_) _ i m (fun q hq e he hb=>?_) hre
     ·have hjl:j<L.length:=(qW.1 hj).1
      have hjm:=(hdone j hjl).1 hjd
      have:=hedge j q hj
      unfold fD at this
      have:=pi.1 this e (by simpa using he)
      simp only [hb,oh,wS,u9]at this
      exact(hdone e.on (by omega)).2 (by omega)
     ·have:q=p:=by rw [hp']at hq;simpa using hq.symm
      subst this
      exact hwait e he hb
    have:=(hdone m hm).1 this
    omega
   ·omega
  have hready:m∈Region.ready .any L.toArray done:=by
   rw [tR]
   refine⟨hmu,o,by simpa using hLm,fun e he hb=>?_⟩
   have:=hedge m o hLm
   unfold fD at this
   have:=pi.1 this e (by simpa using he)
   simp only [hb,oh,wS,u9]at this
   exact(hdone e.on (by omega)).2 this
  cases fuel with
  |zero=>
   have:=uD hu (i:=m) (by omega)
   have:=(hdone m hm).1 this
   omega
  |succ fuel=>
   refine⟨fun hr=>(by rw [hr]at hready;cases hready),fun i hi=>?_⟩
   have:=honly i hi
   subst this
   have hnext:=fun a w=>ih (i+1) (done.setIfInBounds i true) fuel a w (by omega) (by rw [←va,hdrop];rfl) (by simpa using hsz) (fun j hj=>by
    by_cases hij:i=j
    ·subst hij;have:i<done.size:=by omega
     simp [this]
    ·rw [vw false hij,hdone j hj];omega) (by have:=q9 hmu;omega)
   unfold wpOpIn
   have hLm' :L.toArray[i]? =some o:=by simpa using hLm
   rw [hLm']
   show if _ then _ else _
   unfold wpListIn at h
   by_cases hw:Region.wanted o (yielded L.toArray a.tmps)=true
   ·rw [bS hw]at h ⊢;exact Oper.wpIn_mono (fun a w hk=>hnext a w hk) h
   ·rw [bM hw]at h ⊢;exact⟨h.1,hnext _ _ h.2⟩
theorem HR{l t:List Oper}(hsl:v6 E.N.n [] l=true)(hlen:ts.length=l.length)(hd:DR E O G (l++t) ts 0 l)(ht:yW (l++t) l.length t.length=true)(hQ: ∀a w S,St E O (Kf l ts G) a w S→wpListIn (fw E.r) 0 E.P (l++t).toArray Q t a w):
  ∀(fuel:Nat) (done:Array Bool) (a:Act) (w:World) (S:SH),mb done=fuel→(∀j,l.length≤j→done.getD j false=false)→DJ E O G (l++t) ts done a w S→wpAnyIn (fw E.r) 0 E.P .any (l++t).toArray Q fuel done a w:=by
 have hL1: ∀i o,i<l.length→(l++t)[i]? =some o→l[i]? =some o:=fun i o hi h=>by rwa [xc hi]at h
 have hL2: ∀i o,l[i]? =some o→(l++t)[i]? =some o:=fun i o h=>by rw [xc (qW.1 h).1];exact h
 have htail: ∀m o,l.length≤m→(l++t)[m]? =some o→wE (l++t) m=true∧fD m o=true:=fun m o hm ho=>by
  have hml:m<(l++t).length:=(qW.1 ho).1
  rw [lw]at hml
  unfold yW at ht
  have:=pi.1 ht (m-l.length) (by simp;omega)
  rw [show l.length+(m-l.length)=m from by omega,ho]at this
  simp only [lH]at this
  exact⟨this.1,this.2.1⟩
 have hedge: ∀i o,(l++t)[i]? =some o→fD i o=true:=fun i o hi=>by
  rcases lu i l.length with h|h
  ·obtain⟨_,_,_,_,_,h,_⟩:=DR.get l 0 hd i o (hL1 i o h hi)
   simpa using h
  ·exact(htail i o h hi).2
 obtain⟨hs1,hs2⟩:=xn l [] hsl
 have fin: ∀fuel done a w S,mb done=fuel→(∀j,l.length≤j→done.getD j false=false)→DJ E O G (l++t) ts done a w S→(∀i,i<l.length→done.getD i false=true)→wpAnyIn (fw E.r) 0 E.P .any (l++t).toArray Q fuel done a w:=by
  intro fuel done a w S hu hfree h hall
  refine zn (n:=l.length) (fun m o hm ho=>(htail m o hm ho).1) hedge t l.length done fuel a w (eW _) (by simp) h.dsz (fun j hj=>⟨fun hjd=>?_,fun hlt=>hall j hlt⟩) hu
   (hQ a w S ⟨h.ext,h.sat,h.own,h.size,h.defers,fun j u hj=>?_⟩)
  ·rcases lu j l.length with h' |h'
   ·exact h'
   ·rw [hfree j h']at hjd;cases hjd
  ·rcases FR l ts j u (fun o ho e=>by obtain⟨d,hd,_⟩:=hs1 o ho;rw [hd]at e;cases e) hlen hj with⟨i,o,h1,h2,h3⟩|⟨h1,h2⟩
   ·exact h.new i o j u (hL2 i o h1) (hall i (qW.1 h1).1) h2 h3
   ·refine h.old j u h1 fun i o ho hdn=>?_
    rcases lu i l.length with h' |h'
    ·exact h2 o (ta (hL1 i o h' ho))
    ·rw [hfree i h']at hdn;cases hdn
 have lower: ∀done a w S i,(∀j,l.length≤j→done.getD j false=false)→DJ E O G (l++t) ts done a w S→i∈Region.ready .any (l++t).toArray done→l.length≤i→ ∀j,j<l.length→done.getD j false=true:=by
  intro done a w S i hfree h hi hge j hj
  obtain⟨hun,p,hp,hwait⟩:=tR.1 hi
  have hp' :(l++t)[i]? =some p:=by simpa using hp
  have hcov:=(htail i p hge hp').1
  unfold wE at hcov
  have hre:=pi.1 hcov j (by simp;omega)
  exact gO h.down _ i j (fun q hq e he hb=>by
   have:q=p:=by rw [hp']at hq;simpa using hq.symm
   subst this
   exact hwait e he hb) hre
 intro fuel
 induction fuel with
 |zero=>
  intro done a w S hu hfree h
  exact fin 0 done a w S hu hfree h fun i hi=>uD hu (by rw [h.dsz,lw];omega)
 |succ fuel ih=>
  intro done a w S hu hfree h
  by_cases hall: ∀i,i<l.length→done.getD i false=true
  ·exact fin _ done a w S hu hfree h hall
  have hready0: ∀m i,i<m→i<l.length→Region.ready .any (l++t).toArray done=[]→done.getD i false=true:=by
   intro m
   induction m with
   |zero=>intro i h;omega
   |succ m ihm=>
    intro i him hil hr
    have his:i<done.size:=by rw [h.dsz,lw];omega
    by_cases hdn:done.getD i true=true
    ·rw [←pc his];exact hdn
    ·exfalso
     obtain⟨o,ho⟩: ∃o,(l++t)[i]? =some o:=⟨l[i],hL2 i _ (q6 hil)⟩
     have hmem:i∈Region.ready .any (l++t).toArray done:=by
      rw [tR]
      refine⟨by simpa using hdn,o,by simpa using ho,fun e he hb=>?_⟩
      have:=hedge i o ho
      unfold fD at this
      have:=pi.1 this e (by simpa using he)
      simp only [hb,oh,wS,u9]at this
      exact ihm e.on (by omega) (by omega) hr
     rw [hr]at hmem;cases hmem
  refine⟨fun hr=>absurd (fun i hi=>hready0 (i+1) i (by omega) hi hr) hall,fun i hi=>?_⟩
  have hil:i<l.length:=by
   rcases lu i l.length with h' |h'
   ·exact h'
   ·exact absurd (lower done a w S i hfree h hi h') hall
  obtain⟨hun,o,ho,hwait⟩:=tR.1 hi
  have ho' :(l++t)[i]? =some o:=by simpa using ho
  have hol:=hL1 i o hil ho'
  obtain⟨needs,u,h1,h2,h3,_,h5⟩:=DR.get l 0 hd i o hol
  rw [q7]at h1 h3
  have hF:=h.need ho' hun hwait h2 h3
  have h6:=h5 a w S h.sat h.own hF
  have hu' :mb (done.setIfInBounds i true)=fuel:=by have:=q9 hun;omega
  obtain⟨d,hdd,hdN,_⟩:=hs1 o (ta hol)
  have huq: ∀j p,(l++t)[j]? =some p→done.getD j false=true→p.dst=some d→i=j:=fun j p hj hjd hpd=>by
   rcases lu j l.length with h' |h'
   ·exact hs2 i j o p hol (hL1 j p h' hj) (by rw [hdd,hpd])
   ·rw [hfree j h']at hjd;cases hjd
  have hfree' : ∀j,l.length≤j→(done.setIfInBounds i true).getD j false=false:=fun j hj=>by
   rw [vw false (by omega)];exact hfree j hj
  unfold wpOpIn
  rw [ho]
  show if _ then _ else _
  by_cases hw:Region.wanted o (yielded (l++t).toArray a.tmps)=true
  ·rw [bS hw]at h6 ⊢
   refine lJ (fun a' w' ⟨v,S',ha,he,hs,hv⟩=>?_) h6
   subst ha
   exact ih _ _ _ S' hu' hfree' (h.stepT ho' hdd hdN huq hwait h1 hun he hs hv)
  ·rw [bM hw]at h6 ⊢
   exact⟨fun _ _=>trivial,ih _ _ _ S hu' hfree' (h.stepT ho' hdd hdN huq hwait h1 hun (gF _ _ _) h.sat h6)⟩
theorem Qp{id:Nat}{l t:List Oper}(hL:L=l++t)(hm:E.P.follows .mixedOrders=true)(hsl:v6 E.N.n [] l=true)(hlen:ts.length=l.length)(ht:yW L l.length t.length=true)(hd:DR E O G L ts 0 l)(k:RG E L.toArray Q t O (Kf l ts G)):CG E Q (.region id L.toArray true) O G:=fun a w S st=>by
 subst hL
 refine wpIn_region_any hm ?_
 obtain⟨he,hs⟩:=xZ (w:=w) st.sat
 refine HR hsl hlen hd ht (fun a w S st=>k a w S st) _ _ _ _ S ?_ (fun j _=>?_)
  ⟨st.ext.step0 he,hs,st.own.ext0 he,st.facts.size,st.facts.defers,by simp,fun j o hj hdone=>?_,fun k t hk _=>st.facts.at_ k t hk,fun j o d t hj hdone=>?_⟩
 ·unfold mb;rw [K8,KY];simp
 ·simp [zf];split<;>rfl
 ·simp [zf]at hdone
  split at hdone<;>simp at hdone
 ·simp [zf]at hdone
  split at hdone<;>simp at hdone

abbrev It(α:Type):=(σ:Type)→(α→σ→Option (Bool×σ))→σ→Option σ

def qY(Se:SH)(O:List OE):OE where
 fp:=fun k=> ∃f∈O,f.fp k
 p:=fun w S=>SH.le Se S∧du 0 qq w S O
 here:=fun⟨_,h⟩ _ ⟨f,hf,hk⟩=>f.here (du.mem h f hf).1 _ hk
 kept:=fun⟨h1,h2⟩ k hC=>⟨SH.le_trans h1 k.keep,h2.ext k fun f hf b hb=>hC b ⟨f,hf,hb⟩⟩
theorem du.weak: ∀{O:List OE},du base B w S O→du 0 qq w S O
 |[],_=>trivial
 |_::_,⟨h1,h2,h3⟩=>⟨⟨h1.1,fun _ _=> .inl (iP _)⟩,h2,du.weak h3⟩
theorem lG: ∀{O:List OE},du 0 qq w S O→(∀f∈O,∀k,f.fp k→base≤k∨B k)→du base B w S O
 |[],_,_=>trivial
 |_::_,⟨h1,h2,h3⟩,h=>⟨⟨h1.1,h _ (iA ..)⟩,h2,lG h3 fun f hf=>h f (pS _ hf)⟩
def wi(l:Nat)(r:Loop)(st:LoopState):OE where
 fp:=fun k=>k=l
 p:=fun w S=>S l=none∧w.heap[l]? =some (.loop {r with state:=st,pending:=none})
 here:=by
  intro w S h k hk
  subst hk
  exact(vd.1 h.2).1
 kept:=by
  intro C w w' S S' h k hC
  have hlt:=(vd.1 h.2).1
  exact⟨by rw [k.old l hlt (hC l rfl)];exact h.1,by rw [k.heap l hlt (hC l rfl)];exact h.2⟩
def CP(b:Nat):OE where
 fp:=fun k=>k=b
 p:=fun w S=>S b=none∧w.heap[b]? =some (.deferred (some []))
 here:=by
  intro w S h k hk
  subst hk
  exact(vd.1 h.2).1
 kept:=by
  intro C w w' S S' h k hC
  have hlt:=(vd.1 h.2).1
  exact⟨by rw [k.old b hlt (hC b rfl)];exact h.1,by rw [k.heap b hlt (hC b rfl)];exact h.2⟩
def xI(b:Nat):Deferred:={target:= .collected b,args:= #[]}

def Vk(P:Program){α σ:Type}(args:α→List Ty)(y:α→σ→Option (Bool×σ))(I:σ→OE→Prop)(yv:Value):Prop:=
 ∃l,yv= .func (.yield l) #[] #[]∧ ∀x s r,y x s=some r→ ∀e,I s e→ ∀w S vs,jU w S→e.p w S→wZ S (args x) vs→
  ∃f tmps assign body,(Instr.yield l vs.toArray).run P w= .ok (.round l f tmps assign body) w∧
   RoundIn (fw none) 0 P l f tmps assign body w fun en w' => ∃e' S',en= .returned (.bool r.1)∧I r.2 e' ∧gW e.fp w S w' S' ∧jU w' S' ∧e'.p w' S' ∧ ∀k,e'.fp k→e.fp k∨w.heap.size≤k
def Ql(P:Program){α:Type}(args:α→List Ty)(it:It α)(fid:FuncId)(cap:Array Value)(fp:Nat→Prop)(w:World)(S:SH):Prop:=
 ∀(σ:Type) (y:α→σ→Option (Bool×σ)) (s s' :σ),it σ y s=some s' → ∀I yv,Vk P args y I yv→ ∀e,I s e→e.p w S→(∀k,e.fp k→ ¬fp k)→
  Calls P fid (#[yv]++cap) w fun en w' => ∃e' S',(∃v,en= .returned v)∧I s' e' ∧gW (fun k=>e.fp k∨fp k) w S w' S' ∧jU w' S' ∧e'.p w' S' ∧ ∀k,e'.fp k→e.fp k∨w.heap.size≤k
def SJ(P:Program){α:Type}(args:α→List Ty)(it:It α)(v:Value)(fp:Nat→Prop):OE where
 fp:=fp
 p:=fun w S=>(∀k,fp k→k<w.heap.size)∧ ∃fid cap,v= .func (.func fid) #[] cap∧av P fid=true∧
  ∀C w' S',gW C w S w' S' →(∀k,fp k→ ¬C k)→jU w' S' →Ql P args it fid cap fp w' S'
 here:=fun h k hk=>h.1 k hk
 kept:=by
  rintro C w w' S S' ⟨h1,fid,cap,h2,h3,h4⟩ k hC
  refine⟨fun b hb=>wU (h1 b hb) k.size,fid,cap,h2,h3,fun C' w'' S'' k' hC' hs=>?_⟩;exact h4 (fun b=>C b∨C' b) w'' S'' ((k.more fun b hb=> .inl hb).trans (k'.more fun b hb=> .inr hb)) (fun b hb h=>h.elim (hC b hb) (hC' b hb)) hs

def zP(P:Program)(fid:FuncId){α:Type}(args:α→List Ty)(it:It α)(O:List OE)(cts:List Ty):Prop:=
 ∀w S cap,jU w S→du 0 qq w S O→wZ S cts cap→Ql P args it fid cap.toArray (fun k=> ∃f∈O,f.fp k) w S
def Vb(E:En){σ:Type}(I:σ→OE→Prop)(s:σ)(e0:OE):Ending→World→Prop:=fun en w' => ∃e' S',(∃v,en= .returned v)∧I s e' ∧gW E.B E.w0 E.S0 w' S' ∧jU w' S' ∧e'.p w' S' ∧ ∀k,e'.fp k→e0.fp k∨E.w0.heap.size≤k
variable{σ:Type}{I:σ→OE→Prop}{args:α→List Ty}{cts:List Ty}{it:It α}
theorem zP.of(hf:P.funcs[f]? =some fn)(hb:fn.body=some c)(hN:fn.ntmps=N)(hn:Nat.ble (cts.length+1) N=true)(h: ∀(σ:Type) (y:α→σ→Option (Bool×σ)) (s s' :σ),it σ y s=some s' → ∀I yv,Vk P args y I yv→ ∀e,I s e→ ∀w0 S0 B,(∀k,B k→e.fp k∨ ∃f∈O,f.fp k)→
   CG ⟨P,⟨N,[]⟩,B,w0,S0,none⟩ (bodyPost P fn (Vb ⟨P,⟨N,[]⟩,B,w0,S0,none⟩ I s' e)) c (e::O) (uT 0 (tV yv::cts))):zP P f args it O cts:=by
 subst hN
 intro w S cap hs ho hc σ y s s' hit I yv hy e he hep hap
 have hown:du w.heap.size (fun k=>e.fp k∨ ∃f∈O,f.fp k) w S (e::O):=
  ⟨⟨hep,fun k hk=> .inr (.inl hk)⟩,fun f hf b hb hfb=>hap b hb ⟨f,hf,hfb⟩,lG ho fun f hf k hk=> .inr (.inr ⟨f,hf,hk⟩)⟩
 have hfacts:=oN (S:=S) (ts:=tV yv::cts) (vs:=yv::cap) ⟨rfl,hc⟩ fn.ntmps (by simpa using pT hn)
 have:=lj.1 (Dg (F:=fw none) (n:=0) hf hb trivial (h σ y s s' hit I yv hy e he w S (fun k=>e.fp k∨ ∃f∈O,f.fp k) (fun _ h=>h) _ w S ⟨gF _ _ _,hs,hown,hfacts⟩))
 rw [show(#[yv]++cap.toArray:Array Value)=(yv::cap).toArray from by simp]
 exact this.mono fun en w' ⟨e',S',h1,h2,h3,h4,h5,h6⟩=>⟨e',S',h1,h2,h3,h4,h5,h6⟩
section
variable{ty:TypeId}
theorem OF{e e' :OE}{O:List OE}(h:du base B w S (e::O))(k:gW e.fp w S w' S')(hp:e'.p w' S')(hn: ∀b,e'.fp b→e.fp b∨w.heap.size≤b)(hb:base≤w.heap.size):du base B w' S' (e' ::O):=
 ⟨⟨hp,fun b hb' =>(hn b hb').elim (fun h2=>h.1.2 b h2) (fun h2=> .inl (by omega))⟩,fun f hf b hb' hfb=>(hn b hb').elim (fun h2=>h.2.1 f hf b h2 hfb) (fun h2=>by
  have:=f.here (du.mem h.2.2 f hf).1 b hfb
  omega),h.2.2.ext k fun f hf b hb' h2=>h.2.1 f hf b h2 hb'⟩
theorem Ew{y:α→σ→Option (Bool×σ)}{yv:Value}{x:α}{s:σ}{r:Bool×σ}{e:OE}{fo:Operand}{xs:List Operand}(hy:Vk E.P args y I yv)(he:I s e)(hq:y x s=some r)(hf:aZ E.N G fo (tV yv))(hx:jE E.N G xs (args x))(hd:Nat.blt d E.N.n=true)(k: ∀e',I r.2 e' →RG E ops Q rest (e' ::O) ((d,tD rB r.1)::G)):RG E ops Q (⟨some d,.call ⟨.value fo,xs.toArray,ats⟩,ty,pos,after,none⟩::rest) (e::O) G:= .of rfl fun a w S st=>by
 obtain⟨l,rfl,hyl⟩:=hy
 have h1:a.eval fo= .func (.yield l) #[] #[]:=hf S a st.facts
 obtain⟨f,tmps,assign,body,h2,h3⟩:=hyl x s r hq e he w S _ st.sat st.own.1.1 (hx.tys st.facts)
 have hr:(execOp a.eval ⟨some d,.call ⟨.value fo,xs.toArray,ats⟩,ty,pos,after,none⟩).run E.P w= .ok (.round l f tmps assign body) w:=by
  simp [execOp,resolve,h1,Deferred.ofValue,invoke]
  simpa using h2
 refine⟨fun c h=>(by cases h),?_⟩
 rw [hr]
 refine h3.mono fun en w' ⟨e',S',h4,h5,h6,h7,h8,h9⟩=>⟨_,h4,?_⟩;exact k e' h5 _ _ S' ⟨st.ext.step h6 (fun b hb=>st.own.1.2 b hb),h7,OF st.own h6 h8 h9 st.base_le,(st.facts.mono h6.keep).put hd (ju.2 rfl)⟩
end
def FX:List OE→List OE→Prop
 |[],_=>True
 |f::O,g::O' =>(∀k,f.fp k→g.fp k)∧FX O O'
 |_::_,[]=>False
theorem FX.mem: ∀{O O' :List OE},FX O O' → ∀k,(∃f∈O,f.fp k)→ ∃f∈O',f.fp k
 |f::O,g::O',⟨h1,h2⟩,k,⟨q,hq,hk⟩=>by
  rcases jl.1 hq with e|e
  ·subst e;exact⟨g,iA ..,h1 k hk⟩
  ·obtain⟨q',h3,h4⟩:=FX.mem h2 k ⟨q,e,hk⟩
   exact⟨q',pS _ h3,h4⟩
theorem HB{s:σ}{e0 e:OE}{O0:List OE}(hr:fn.results= #[])(he:I s e)(hB: ∀k,B k→e0.fp k∨ ∃f∈O0,f.fp k)(hO:FX O0 O):
  AT ⟨P,⟨N,[]⟩,B,w0,S0,none⟩ (bodyPost P fn (Vb ⟨P,⟨N,[]⟩,B,w0,S0,none⟩ I s e0)) .ret (e::O) G:=fun _ _ S st=>
 ⟨st.facts.defers,_,vz P fn hr _ _,e,S,⟨_,rfl⟩,he,st.ext,st.sat,st.own.1.1,fun k hk=>(st.own.1.2 k hk).elim .inr fun hb=>(hB k hb).elim .inl fun hx=>let⟨f,hf,hfk⟩:=hO.mem k hx;absurd hfk (st.own.2.1 f hf k hk)⟩
theorem JC{s:σ}{e0 e:OE}{O0:List OE}(hr:fn.results= #[])(he:I s e)(hB: ∀k,B k→e0.fp k∨ ∃f∈O0,f.fp k)(hO:FX O0 O):
  AT ⟨P,⟨N,[]⟩,B,w0,S0,none⟩ (bodyPost P fn (Vb ⟨P,⟨N,[]⟩,B,w0,S0,none⟩ I s e0)) .normal (e::O) G:=fun a w S st=>HB hr he hB hO a w S st

variable{O1:List OE}{ι:Type}{O2:ι→List OE}
theorem nV: ∀{O1 O2:List OE},du base B w S (O1++O2)→du base B w S O1∧du base B w S O2∧ ∀e∈O1,∀f∈O2,e.apart f
 |[],_,h=>⟨trivial,h,fun _ h=>(by cases h)⟩
 |e::O1,O2,⟨h1,h2,h3⟩=>by
  obtain⟨k1,k2,k3⟩:=nV h3
  refine⟨⟨h1,fun f hf=>h2 f (Dk _ hf),k1⟩,k2,fun g hg f hf=>?_⟩
  rcases jl.1 hg with rfl|hg
  ·exact h2 f (KX _ hf)
  ·exact k3 g hg f hf
theorem du.cons{e:OE}(h1:e.holds base B w S)(h2: ∀f∈O,e.apart f)(h3:du base B w S O):du base B w S (e::O):=⟨h1,h2,h3⟩

def zN(P:Program)(f:FuncId)(ts:List Ty){α:Type}(args:α→List Ty)(it:It α):Prop:=
 ∀w S vs,jU w S→wZ S ts vs→Calls P f vs.toArray w fun e w' => ∃v fp S',e= .returned v∧gW qq w S w' S' ∧jU w' S' ∧(SJ P args it v fp).holds w.heap.size qq w' S'
def SN(E:En){α:Type}(args:α→List Ty)(it:It α):Ending→World→Prop:=fun e w' => ∃v fp S',e= .returned v∧gW E.B E.w0 E.S0 w' S' ∧jU w' S' ∧(SJ E.P args it v fp).holds E.w0.heap.size E.B w' S'
theorem zN.of(hf:P.funcs[f]? =some fn)(hb:fn.body=some c)(hN:fn.ntmps=N)(hn:Nat.ble ts.length N=true)(h: ∀w0 S0,CG ⟨P,⟨N,[]⟩,qq,w0,S0,none⟩ (bodyPost P fn (SN ⟨P,⟨N,[]⟩,qq,w0,S0,none⟩ args it)) c [] (uT 0 ts)):zN P f ts args it:=by
 subst hN
 intro w S vs hs hv
 exact lj.1 (Dg (F:=fw none) (n:=0) hf hb trivial (h w S _ w S ⟨gF _ _ _,hs,trivial,oN hv _ (pT hn)⟩))
section
theorem JA{k:Nat}{v:Value}{fp:Nat→Prop}(hr:fn.results= #[.tmp k])(hk:look G k=some (tV v)):
  AT ⟨P,⟨N,[]⟩,B,w0,S0,none⟩ (bodyPost P fn (SN ⟨P,⟨N,[]⟩,B,w0,S0,none⟩ args it)) .ret (SJ P args it v fp::O) G:=fun a w S st=>by
 have hv:a.tmps.getD k undef=v:=st.facts.at_ k _ hk
 exact⟨st.facts.defers,_,lC P fn k hr _ _,v,fp,S,by rw [hv],st.ext,st.sat,st.own.1⟩
section
variable{ty:TypeId}
theorem Gi{xs:List Operand}(hc:av E.P f=true)(hs:zN E.P f ts args it)(hx:jE E.N G xs ts)(hd:Nat.blt d E.N.n=true)(k: ∀v fp,RG E ops Q rest (SJ E.P args it v fp::O) ((d,tV v)::G)):
  RG E ops Q (⟨some d,.call ⟨.value (.func f),xs.toArray,ats⟩,ty,pos,after,none⟩::rest) O G:= .of rfl fun a w S st=>by
 have hr:(execOp a.eval ⟨some d,.call ⟨.value (.func f),xs.toArray,ats⟩,ty,pos,after,none⟩).run E.P w= .ok (.enter f (xs.map a.eval).toArray) w:=by
  simp [execOp,resolve,Act.eval,Deferred.ofValue,invoke,gL hc]
 refine⟨fun c h=>(by cases h),?_⟩
 rw [hr]
 refine(hs w S _ st.sat (hx.tys st.facts)).mono fun e w' ⟨v,fp,S',he,h1,h2,h3⟩=>⟨_,he,?_⟩;exact k v fp _ _ S' ⟨st.ext.step0 h1,h2,pO st.own h1 h3.1 (fun b hb=>(h3.2 b hb).resolve_right id) st.base_le,(st.facts.mono h1.keep).put hd rfl⟩
theorem Cu{fid:FuncId}{O2:List OE}{caps:List Operand}(hO:O=O1++O2)(hc:av E.P fid=true)(hs:zP E.P fid args it O1 cts)(hcap:jE E.N G caps cts)(hd:Nat.blt d E.N.n=true)(k: ∀v fp,RG E ops Q rest (SJ E.P args it v fp::O2) ((d,tV v)::G)):
  RG E ops Q (⟨some d,.makeFunc (.func fid) #[] caps.toArray,ty,pos,after,none⟩::rest) O G:= .of rfl fun a w S st=>by
 subst hO
 have hr:(execOp a.eval ⟨some d,.makeFunc (.func fid) #[] caps.toArray,ty,pos,after,none⟩).run E.P w= .ok (.value (.func (.func fid) #[] (caps.map a.eval).toArray)) w:=by simp [execOp,Instr.makeFunc]
 refine⟨fun c h=>(by cases h),?_⟩
 rw [hr]
 obtain⟨h1,h2,h3⟩:=nV st.own
 have hcv:=hcap.tys st.facts
 refine k (.func (.func fid) #[] (caps.map a.eval).toArray) (fun k=> ∃f∈O1,f.fp k) _ _ S ⟨st.ext,st.sat,?_,st.facts.put hd rfl⟩;refine du.cons ⟨⟨fun b ⟨f,hf,hb⟩=>f.here (du.mem h1 f hf).1 b hb,fid,_,rfl,hc,fun C w' S' he hC hs' =>?_⟩,fun b ⟨f,hf,hb⟩=>(du.mem h1 f hf).2 b hb⟩ (fun f hf b ⟨g,hg,hb⟩=>h3 g hg f hf b hb) h2;exact hs w' S' _ hs' (h1.weak.ext he fun f hf b hb=>hC b ⟨f,hf,hb⟩) (hcv.mono he.keep)
end
end

def FE:List Nat→List Ty→mz→mz
 |d::ds,t::ts,G=>FE ds ts ((d,t)::G)
 |_,_,G=>G
theorem zL{N:Fr}{S:SH}: ∀(ds:List Nat) (ts:List Ty) (vs:List Value) (a:Act) (G:mz),ds.length=ts.length→wZ S ts vs→(ds.all fun d=>Nat.blt d N.n)=true→dr N S a G→
  dr N S {tmps:=(ds.zip vs).foldl (fun t (p:Nat×Value)=>t.setIfInBounds p.1 p.2) a.tmps,defers:=a.defers} (FE ds ts G)
 |[],_,_,_,_,hl,_,_,hF=>by
  cases vv hl.symm
  simpa [FE] using hF
 |d::ds,[],_,_,_,hl,_,_,_=>by simp at hl
 |d::ds,t::ts,[],_,_,_,hv,_,_=>hv.elim
 |d::ds,t::ts,v::vs,a,G,hl,⟨h1,h2⟩,hd,hF=>by
  simp only [w9,lH]at hd
  have:=zL ds ts vs (a.put (some d) v) ((d,t)::G) (by simpa using hl) h2 hd.2 (hF.put hd.1 h1)
  simpa [FE,Act.put] using this
def TO(E:En)(l:Nat)(rec:Loop){σ ι:Type}(Oi:ι→List OE)(dat:ι→σ)(s2:σ):Ending→World→Prop:=fun en w' =>
 ∃i S',en= .returned (.bool true)∧dat i=s2∧gW E.B E.w0 E.S0 w' S' ∧jU w' S' ∧du E.base E.B w' S' (wi l rec .ready::Oi i)
def Sp(E:En)(l:Nat)(body:Code)(R:Ending→World→Prop):Exit→Act→World→Prop:=
 Exit.then (fun a₁ w₁=> ∃w₂,(Instr.beginRound l).run E.P w₁= .ok () w₂∧body.wpIn (fw E.r) 0 E.P (roundPost E.P l R) a₁ w₂) (fun _ _ _=>False)
variable{rec:Loop}{x1 x2 x3:OE}
section
theorem GO{l:Nat}{st st' :LoopState}{O:List OE}(h:du base B w S (wi l rec st::O))(hs:jU w S):
  gW (fun k=>k=l) w S (w.putObj l (.loop {rec with state:=st',pending:=none})) S∧jU (w.putObj l (.loop {rec with state:=st',pending:=none})) S∧du base B (w.putObj l (.loop {rec with state:=st',pending:=none})) S (wi l rec st' ::O):=by
 obtain⟨hno,hl⟩:=h.1.1
 have hlt:=(vd.1 hl).1
 have hext:gW (fun k=>k=l) w S (w.putObj l (.loop {rec with state:=st',pending:=none})) S:=⟨rfl,rfl,rfl,eW _,by simp,fun k _ hk=>World.putObj_heap_other hk,SH.le_refl _,fun _ _ _=>rfl⟩
 refine⟨hext,hs.same fun k o hk=>?_,⟨⟨hno,World.putObj_heap_same hlt⟩,h.1.2⟩,h.2.1,h.2.2.ext hext fun g hg k hk hkl=>h.2.1 g hg k hkl hk⟩
 have hne:k≠l:=fun e=>by subst e;rw [hno]at hk;cases hk
 exact World.putObj_heap_other hne
theorem Qs{l:Nat}{body:Code}{R:Ending→World→Prop}(h:CG E (roundPost E.P l R) body (wi l rec .busy::O) G):AT E (Sp E l body R) .normal (wi l rec .ready::O) G:=fun a w S st=>by
 obtain⟨h1,h2,h3⟩:=GO (st' := .busy) st.own st.sat
 obtain⟨_,hl⟩:=st.own.1.1
 exact⟨_,run_beginRound hl rfl,h a _ S ⟨st.ext.step h1 (fun c hc=>st.own.1.2 c hc),h2,h3,st.facts⟩⟩
theorem Cw{l:Nat}{Oi:ι→List OE}{dat:ι→σ}{s2:σ}(i:ι)(hi:dat i=s2)(hO:O=Oi i):AT E (roundPost E.P l (TO E l rec Oi dat s2)) .normal (wi l rec .busy::O) G:=fun a w S st=>by
 subst hO
 obtain⟨h1,h2,h3⟩:=GO (st' := .ready) st.own st.sat
 obtain⟨_,hl⟩:=st.own.1.1
 exact⟨_,_,run_endRound none hl,i,S,rfl,hi,st.ext.step h1 (fun c hc=>st.own.1.2 c hc),h2,h3⟩
theorem wO{ps:Array Nat}{vs:List Value}{tmps:Array Value}:(ps.zip vs.toArray).foldl (fun t (p,v)=>t.setIfInBounds p v) tmps=(ps.toList.zip vs).foldl (fun t (p:Nat×Value)=>t.setIfInBounds p.1 p.2) tmps:=by
 rw [←Array.foldl_toList]
 simp
def Jh{α σ:Type}(f:α→σ→Option σ):α→σ→Option (Bool×σ):=fun x s=>(f x s).map fun s' =>(true,s')
theorem NT{v:Value}{fp:Nat→Prop}(Oi:ι→List OE)(dat:ι→σ){f:α→σ→Option σ}{s' :σ}{g:Operand}{ps:List Nat}{assign body:Code}(hr:E.r=none)(hg:aZ E.N G g (tV v))(i0:ι)(hO:O=SJ E.P args it v fp::Oi i0)(hit:it σ (Jh f) (dat i0)=some s')(hps: ∀x,ps.length=(args x).length)(hpn:(ps.all fun d=>Nat.blt d E.N.n)=true)(hbody: ∀(i:ι) (x:α) (s2:σ),f x (dat i)=some s2→ ∀(l:Nat) (rec:Loop) (w1:World) (S1:SH) (B1:Nat→Prop),
   CG ⟨E.P,⟨E.N.n,[]⟩,B1,w1,S1,some l⟩ (Sp ⟨E.P,⟨E.N.n,[]⟩,B1,w1,S1,some l⟩ l body (TO ⟨E.P,⟨E.N.n,[]⟩,B1,w1,S1,some l⟩ l rec Oi dat s2)) assign (wi l rec .ready::Oi i) (FE ps (args x) G))(k: ∀i',dat i' =s' → ∀b,AT ⟨E.P,⟨E.N.n,xI b::E.N.ds⟩,E.B,E.w0,E.S0,E.r⟩ Q .normal (CP b::Oi i') G):CG E Q (.rangeFunc g ps.toArray assign body) O G:=fun a w S st=>by
 subst hO
 refine wpIn_rangeFunc fun fn _=>?_
 have hr0:(fw E.r).round=none:=hr
 have hfw:fw E.r=fw none:=by rw [hr]
 rw [hr0]
 obtain⟨rec,hrec⟩: ∃rec:Loop,rec={state:= .ready,pending:=none,fn,tmps:=a.tmps,params:=ps.toArray,assign,body,defers:=w.heap.size}:=⟨_,rfl⟩
 obtain⟨x1,x2,x3⟩:=f9 (w:=w) (.deferred (some [])) st.sat
 obtain⟨y1,y2,y3⟩:=f9 (w:=w.alloc (.deferred (some []))) (.loop rec) x2
 obtain⟨W1,hW1⟩: ∃W1,(w.alloc (.deferred (some []))).alloc (.loop rec)=W1:=⟨_,rfl⟩
 rw [hW1]at y1 y2
 have hsz:(w.alloc (.deferred (some []))).heap.size=w.heap.size+1:=by simp
 rw [hsz]at y3
 have hext:gW qq w S W1 S:=x1.trans y1
 have hL1:W1.heap[w.heap.size+1]? =some (.loop rec):=by
  rw [←hW1];have:=World.alloc_heap_new (w.alloc (.deferred (some []))) (.loop rec);rwa [hsz]at this
 have hK1:W1.heap[w.heap.size]? =some (.deferred (some [])):=by
  rw [y1.heap w.heap.size (by omega) (fun h=>h)];exact World.alloc_heap_new w _
 have hW1s:W1.heap.size=w.heap.size+2:=by rw [←hW1];simp
 have hg' :a.eval g=v:=hg S a st.facts
 obtain⟨hit1,hap,hoi⟩:=st.own
 obtain⟨⟨hfp,gf,cap,hv,hcal,hcall⟩,hbase⟩:=hit1
 have hbl:=st.base_le
 have hoi1:du E.base E.B W1 S (Oi i0):=hoi.ext0 hext
 have hlt: ∀f∈Oi i0,∀k,f.fp k→k<w.heap.size:=fun f hf k hk=>f.here (du.mem hoi f hf).1 k hk
 refine⟨w.heap.size+1,[xI w.heap.size],W1,{target:= .fn (.func gf) cap,args:= #[.func (.yield (w.heap.size+1)) #[] #[]]},W1,gf,
  #[.func (.yield (w.heap.size+1)) #[] #[]]++cap,W1,?_,?_,fun _ _=>trivial,?_,fun h=>(by cases h),?_⟩
 ·rw [←hW1,hrec];exact run_enterLoop_outer _ _ _ _ _
 ·simp only [resolve,hg',hv]
  simp [go_sem]
 ·simp [invoke,go_sem,gL hcal]
 rw [hfw]
 refine lj.2 ?_
 have hyld:Vk E.P args (Jh f) (fun s e=> ∃i,dat i=s∧e=qY S (wi (w.heap.size+1) rec .ready::Oi i)) (.func (.yield (w.heap.size+1)) #[] #[]):=by
  refine⟨_,rfl,?_⟩
  rintro x s r hy e ⟨i,rfl,rfl⟩ w2 S2 vs hs2 ⟨hle,hown⟩ hvs
  obtain⟨s2,hs2',rfl⟩: ∃s2,f x (dat i)=some s2∧r=(true,s2):=by
   unfold Jh at hy
   cases hf:f x (dat i)with
   |none=>rw [hf]at hy;cases hy
   |some s2=>rw [hf]at hy;exact⟨s2,rfl,by simpa using hy.symm⟩
  have hl2:=hown.1.1.2
  have hvl:=hvs.length
  have hyr:=run_yield (P:=E.P) (args:=vs.toArray) hl2 (by rw [hrec];simp [hps x,hvl])
  refine⟨_,_,_,_,hyr,roundIn_of_wpIn trivial ?_⟩
  have:=hbody i x s2 hs2' (w.heap.size+1) rec w2 S2 (fun k=> ∃f∈wi (w.heap.size+1) rec .ready::Oi i,f.fp k)
   {tmps:=(ps.zip vs).foldl (fun t (p:Nat×Value)=>t.setIfInBounds p.1 p.2) a.tmps,defers:=[]} w2 S2
   ⟨gF _ _ _,hs2,lG hown fun f hf k hk=> .inr ⟨f,hf,hk⟩,zL ps (args x) vs ⟨a.tmps,[]⟩ G (hps x) hvs hpn ⟨st.facts.size,rfl,fun j t h=>t.mono hle (st.facts.at_ j t h)⟩⟩
  rw [hrec]
  rw [hrec]at this
  rw [wO]
  refine wpIn_mono this ?_
  intro e a3 w3 hp
  cases e with
  |normal=>
   obtain⟨w4,hb4,hp4⟩:=hp
   refine⟨w4,hb4,wpIn_mono hp4 ?_⟩
   have hR: ∀en w',TO ⟨E.P,⟨E.N.n,[]⟩,fun k=> ∃f∈wi (w.heap.size+1) rec .ready::Oi i,f.fp k,w2,S2,some (w.heap.size+1)⟩ (w.heap.size+1) rec Oi dat s2 en w' →
     ∃e' S',en= .returned (.bool true)∧(∃i',dat i' =s2∧e' =qY S (wi (w.heap.size+1) rec .ready::Oi i'))∧gW (qY S (wi (w.heap.size+1) rec .ready::Oi i)).fp w2 S2 w' S' ∧jU w' S' ∧e'.p w' S' ∧ ∀k,e'.fp k→(qY S (wi (w.heap.size+1) rec .ready::Oi i)).fp k∨w2.heap.size≤k:=by
    rintro en w' ⟨i',S',h1,h2,h3,h4,h5⟩
    exact⟨_,S',h1,⟨i',h2,rfl⟩,h3,h4,⟨SH.le_trans hle h3.keep,h5.weak⟩,fun k ⟨f,hf,hk⟩=>((du.mem h5 f hf).2 k hk).symm⟩
   rw [hrec]at hR
   intro e5 a5 w5 hp5
   cases e5<;>simp only [roundPost]at hp5 ⊢
   case normal=>obtain⟨v5,w6,h1,h2⟩:=hp5;exact⟨v5,w6,h1,hR _ _ h2⟩
   case ret=>obtain⟨v5,w6,h1,h2⟩:=hp5;exact⟨v5,w6,h1,hR _ _ h2⟩
   case exit=>obtain⟨v5,w6,h1,h2⟩:=hp5;exact⟨v5,w6,h1,hR _ _ h2⟩
   case goto=>obtain⟨v5,w6,h1,h2⟩:=hp5;exact⟨v5,w6,h1,hR _ _ h2⟩
  |_=>exact hp
 have hrecE:W1.heap[w.heap.size+1]? =some (.loop {rec with state:= .ready,pending:=none}):=by rw [hL1,hrec]
 have he0:(qY S (wi (w.heap.size+1) rec .ready::Oi i0)).p W1 S:=⟨SH.le_refl _,⟨⟨y3,hrecE⟩,fun _ _=> .inl (iP _)⟩,fun f hf k hk hfk=>by have:=hlt f hf k hfk;have hk' :k=w.heap.size+1:=hk;omega,hoi1.weak⟩
 have hap0: ∀k,(qY S (wi (w.heap.size+1) rec .ready::Oi i0)).fp k→ ¬fp k:=by
  rintro k ⟨f,hf,hk⟩ hfk
  rcases jl.1 hf with rfl|hf
  ·have:=hfp k hfk;have hk' :k=w.heap.size+1:=hk;omega
  ·exact hap f hf k hfk hk
 refine(hcall qq W1 S hext (fun _ _ h=>h) y2 σ (Jh f) (dat i0) s' hit _ _ hyld _ ⟨i0,rfl,rfl⟩ he0 hap0).mono ?_
 rintro en w2 ⟨e',S2,⟨vr,rfl⟩,⟨i',hi',rfl⟩,hx2,hs2,⟨hle2,hown2⟩,hnew⟩
 have hl2:=hown2.1.1.2
 refine⟨none,_,run_endLoop hl2 (by simp),?_⟩
 have hb2:du E.base E.B w2 S2 (wi (w.heap.size+1) rec .ready::Oi i'):=by
  refine lG hown2 fun f hf k hk=>?_
  rcases hnew k ⟨f,hf,hk⟩with⟨f0,hf0,hk0⟩|h
  ·rcases jl.1 hf0 with rfl|hf0
   ·left;have hk' :k=w.heap.size+1:=hk0;omega
   ·exact(du.mem hoi f0 hf0).2 k hk0
  ·left;omega
 obtain⟨z1,z2,z3⟩:=GO (st' := .exhausted) hb2 hs2
 have hdf:(CP w.heap.size).p W1 S:=⟨x3,hK1⟩
 have hnb: ∀k,(CP w.heap.size).fp k→ ¬((qY S (wi (w.heap.size+1) rec .ready::Oi i0)).fp k∨fp k):=by
  rintro k hk h
  have hk' :k=w.heap.size:=hk
  subst hk'
  rcases h with⟨f,hf,hfk⟩|h
  ·rcases jl.1 hf with rfl|hf
   ·have hk' :w.heap.size=w.heap.size+1:=hfk;omega
   ·have:=hlt f hf _ hfk;omega
  ·have:=hfp _ h;omega
 have Vr:(CP w.heap.size).p w2 S2:=(CP w.heap.size).kept hdf hx2 hnb
 have hd3:=(CP w.heap.size).kept Vr z1 (fun k hk hkl=>by have h1:k=w.heap.size:=hk;have h2:k=w.heap.size+1:=hkl;omega)
 have hBin: ∀k,((qY S (wi (w.heap.size+1) rec .ready::Oi i0)).fp k∨fp k)→E.w0.heap.size≤k∨E.B k:=by
  rintro k (⟨f,hf,hk⟩|h)
  ·rcases jl.1 hf with rfl|hf
   ·left;have hk' :k=w.heap.size+1:=hk;have:E.w0.heap.size≤w.heap.size:=hbl;omega
   ·exact(du.mem hoi f hf).2 k hk
  ·exact hbase k h
 refine k i' hi' w.heap.size _ _ S2 ⟨((st.ext.step0 hext).step hx2 hBin).step z1 (fun c hc=>z3.1.2 c hc),z2,?_,?_⟩
 ·refine du.cons ⟨hd3,fun k hk=> .inl (by have h1:k=w.heap.size:=hk;rw [h1];exact hbl)⟩ (fun f hf k hk hfk=>?_) z3.2.2
  have h1:k=w.heap.size:=hk
  rcases hnew k ⟨f,pS _ hf,hfk⟩with h2|h2
  ·exact hnb k hk (.inl h2)
  ·omega
 ·refine⟨st.facts.size,?_,fun j t hj=>t.mono (SH.le_trans (SH.le_refl S) hle2) (st.facts.at_ j t hj)⟩
  show xI w.heap.size::a.defers=_
  rw [st.facts.defers]
end

section
variable{R:Ending→World→Prop}{ds:List Deferred}
theorem vP(h:AT ⟨P,⟨N,[]⟩,B,w0,S0,none⟩ (bodyPost P fn R) .ret O G):AT ⟨P,⟨N,[]⟩,B,w0,S0,none⟩ (bodyPostM (fw none) 0 P fn R) .ret O G:=fun a w S st=>by
 obtain⟨h1,v,h2,h3⟩:=h a w S st
 show LeavesInM (fw none) 0 P fn a.tmps R a.defers .returning w
 rw [h1]
 exact⟨v,h2,h3⟩
theorem A7(h:AT ⟨P,⟨N,ds⟩,B,w0,S0,none⟩ (bodyPostM (fw none) 0 P fn R) .ret O G):AT ⟨P,⟨N,xI b::ds⟩,B,w0,S0,none⟩ (bodyPostM (fw none) 0 P fn R) .ret (CP b::O) G:=fun a w S st=>by
 show LeavesInM (fw none) 0 P fn a.tmps R a.defers .returning w
 rw [st.facts.defers]
 obtain⟨hno,hb⟩:=st.own.1.1
 have hlt:=(vd.1 hb).1
 have hext:gW (fun k=>k=b) w S (w.putObj b (.deferred none)) S:=⟨rfl,rfl,rfl,eW _,by simp,fun k _ hk=>World.putObj_heap_other hk,SH.le_refl _,fun _ _ _=>rfl⟩
 have hsat:jU (w.putObj b (.deferred none)) S:=st.sat.same fun k o hk=>by
  have hne:k≠b:=fun e=>by subst e;rw [hno]at hk;cases hk
  exact World.putObj_heap_other hne
 have:=h {a with defers:=ds} (w.putObj b (.deferred none)) S ⟨st.ext.step hext (fun c hc=>st.own.1.2 c hc),hsat,st.own.2.2.ext hext (fun g hg k hk hkb=>st.own.2.1 g hg k hkb hk),⟨st.facts.size,rfl,st.facts.at_⟩⟩
 exact⟨by simp,.inl ⟨b,_,rfl,run_takeDeferred hb,this⟩⟩
end
theorem Et{t:Ty}(hf:P.funcs[f]? =some fn)(hb:fn.body=some c)(hN:fn.ntmps=N)(hn:Nat.ble ts.length N=true)(h: ∀w0 S0,CG ⟨P,⟨N,[]⟩,qq,w0,S0,none⟩ (bodyPostM (fw none) 0 P fn (I8 ⟨P,⟨N,[]⟩,qq,w0,S0,none⟩ t)) c [] (uT 0 ts)):bo P f ts t:=by
 subst hN
 intro w S vs hs hv
 exact lj.1 (callsIn_of_wp_marks (F:=fw none) (n:=0) hf hb trivial (h w S _ w S ⟨gF _ _ _,hs,trivial,oN hv _ (pT hn)⟩))

def rT(t:Ty):Rp Unit where
 sz:=1
 agg:=false
 rc:=fun S cs _=> ∃v,cs=[v]∧v.oneCell' =true∧t.p S v
 mono:=fun h ⟨v,e,k,l⟩=>⟨v,e,k,t.mono h l⟩
 len:=fun⟨_,e,_⟩=>by rw [e];rfl
 one:=fun⟨v,e,k,_⟩ c hc=>by rw [e]at hc;simp at hc;subst hc;exact k
 sc:=fun _=>rfl
theorem X4{t:Ty}{u:Unit}{v:Value}:(tD (rT t) u).p S v↔v.oneCell' =true∧t.p S v:=by
 constructor
 ·rintro⟨cs,rfl,w,rfl,h1,h2⟩;exact⟨h1,h2⟩
 ·rintro⟨h1,h2⟩;exact⟨[v],rfl,v,rfl,h1,h2⟩
variable{k' :IntKind}{lo:Int}
section
variable{ty:TypeId}
theorem cH.imp{t u:Ty}(h:cH E O G o t)(k: ∀S v,t.p S v→u.p S v):cH E O G o u:=fun a w S hs ho hf=>
 o5 (fun _ _ ⟨v,S',h1,h2,h3,h4⟩=>⟨v,S',h1,h2,h3,k S' v h4⟩) (h a w S hs ho hf)
theorem GW{res:β→Ty}{f:α→Option β}(hx:aZ E.N G x (kz E.P args res f)):cH E O G ⟨dst,.box T x,ty,pos,after,g⟩ (bt (rT (kz E.P args res f)) ()):=
 Kj (fun S a hf=>X4.2 ⟨by obtain⟨_,_,e,_⟩:=hx S a hf;rw [e];rfl,hx S a hf⟩)
theorem Ay{t:Ty}(ti:TI E.P U 1 bytes false z)(hp:aZ E.N G p (bt (rT t) ())):cH E O G ⟨dst,.load U p,ty,pos,after,g⟩ t:=
 (aI (r:=rT t) (x:=()) ti rfl rfl hp).imp fun _ _ h=>(X4.1 h).2

theorem OC:rV.rc S [.slice none 0 0] (aV none 0 0):=⟨rfl,rfl⟩
theorem N1{N:Fr}(h:aZ N G x (tV (aV l cap n))):aZ N G x (tD rV (aV l cap n)):=fun S a hf=>vY.2 ⟨h S a hf,by cases l<;>rfl⟩
theorem sy(ti:TI E.P U 1 bytes false z)(hm:bx rV T b (aV l cap n)∈O)(hp:aZ E.N G p (tV (aM b 0))):
  cH E O G ⟨dst,.load U p,ty,pos,after,g⟩ (tV (aV l cap n)):=(aA (q:=rV) (get:=fun x=>x) ti rfl rfl aR hm hp).imp fun _ _ h=>(vY.1 h).1

def fy{α:Type}(xs:List α)(lo hi:Int):Option (List α):=if 0≤lo∧lo≤hi∧hi≤(xs.length:Int)then some ((xs.take hi.toNat).drop lo.toNat)else none
theorem iC(h:fy xs lo hi=some ys): ∃l m:Nat,lo=l∧hi=m∧l≤m∧m≤xs.length∧ys=(xs.take m).drop l:=by
 unfold fy at h
 split at h
 ·rename_i hc
  exact⟨lo.toNat,hi.toNat,by omega,by omega,by omega,by omega,by simpa using h.symm⟩
 ·cases h
theorem Dw{a:Option Addr}{l m:Nat}(h:Fq r S a xs)(hl:l≤m)(hm:m≤xs.length)(hc:xs.length≤cap):
  Fq r S (if cap=l then a else a.map (·.add (l*r.sz))) ((xs.take m).drop l):=by
 by_cases hlm:l=m
 ·left;subst hlm;simp
 right
 rcases h with h|⟨b,off,c,T,fr,e1,e2,e3⟩
 ·subst h;simp at hm;omega
 subst e1
 have hne: ¬(cap=l):=by omega
 refine⟨b,off+l*r.sz,c,T,fr,?_,e2,?_⟩
 ·rw [bM hne];simp [Addr.add]
 have hlen:((xs.take m).drop l).length=m-l:=by simp;omega
 have e4:xs=(xs.take m).take l++((xs.take m).drop l++xs.drop m):=by
  rw [←iS,vb,vb]
 have h1:((xs.take m).take l).length=l:=by simp;omega
 rw [e4]at e3
 have h2:=(rj e3).2
 have h3:=(rj h2).1
 rw [h1]at h3
 rw [hlen]at h3 ⊢
 rw [←e4]at h3
 rw [xe,Ba,va]at h3
 have hmin:min ((m-l)*r.sz) (xs.length*r.sz-l*r.sz)=(m-l)*r.sz:=by
  rw [←Nat.sub_mul];exact Bc (CA _ (by omega))
 rwa [hmin]at h3
theorem mM{n:Int}{y:Nat}{code:BoundsCode}(h0:0≤n)(h1:n≤y):(Instr.sliceBound (.int k n) y code).run P w= .ok n.toNat w:=by
 simp [Instr.sliceBound,asIntOf,h0,h1]
theorem FK{lo hi:Operand}{i:Int}(ht:E.P.underlying t=some (.slice T))(ti:TI E.P T sz bytes agg z)(hsz:r.sz=sz)(hx:aZ E.N G x (tD (fH r) xs))(hlo:aZ E.N G lo (tD (rI k) i))(hhi:aZ E.N G hi (tD (rI k') j))(h:fy xs i j=some ys):cH E O G ⟨dst,.slice t x (some lo) (some hi) none,ty,pos,after,g⟩ (tD (fH r) ys):=
 .of_pure fun a w S _ _ hf=>by
  subst hsz
  obtain⟨ad,cap,h1,h2,h3,h4⟩:=n6.1 (hx S a hf)
  have h5:=fe.1 (hlo S a hf)
  have h6:=fe.1 (hhi S a hf)
  obtain⟨l,m,rfl,rfl,h7,h8,rfl⟩:=iC h
  have hlen:((xs.take m).drop l).length=m-l:=by simp;omega
  refine⟨.slice (if cap=l then ad else ad.map (·.add (l*r.sz))) (m-l) (cap-l),?_,n6.2 ⟨_,cap-l,by rw [hlen],by omega,by omega,Dw h4 h7 h8 h2⟩⟩
  simp [execOp,Instr.sliceAt,h1,h5,h6,Instr.slice,kH ht,Instr.sliceBounds,mM (k:=k') (n:=(m:Int)) (y:=cap) (by omega) (by omega),mM (k:=k) (n:=(l:Int)) (y:=m) (by omega) (by omega),ti.sizeOf]
end
theorem iL{id:Nat}(m:Nat)(hm:E.P.follows .mixedOrders=true)(hsl:v6 E.N.n [] (L.take m)=true)(hlen:ts.length=(L.take m).length)(ht:yW L (L.take m).length (L.drop m).length=true)(hd:DR E O G L ts 0 (L.take m))(k:RG E L.toArray Q (L.drop m) O (Kf (L.take m) ts G)):CG E Q (.region id L.toArray true) O G:=Qp (vb m L).symm hm hsl hlen ht hd k

def ma(P:Program){α:Type} [DecidableEq α](t:TypeId)(r:Rp α)(n:Nat):Prop:=
 ∀(S:SH) (cs ds:List Value) (x y:α) (d:Nat) (w:World),r.rc S cs x→r.rc S ds y→(Op.equalIn (d+n) t (r.val cs) (r.val ds)).run P w= .ok (decide (x=y)) w
theorem tz(h:P.underlying t=some (.int k')):ma P t (rI k) (n+1):=fun S cs ds x y d w hx hy=>by
 have h1:cs=[.int k x]:=hx
 have h2:ds=[.int k y]:=hy
 subst h1 h2
 have:(Op.equalIn (d+n+1) t (.int k x) (.int k y)).run P w= .ok (x==y) w:=by simp [Op.equalIn,kH h]
 have e:(x==y)=decide (x=y):=by by_cases h:x=y<;>simp [h]
 rw [e]at this
 exact this
theorem PI(h:P.underlying t=some .bool):ma P t rB (n+1):=fun S cs ds x y d w hx hy=>by
 have h1:cs=[.bool x]:=hx
 have h2:ds=[.bool y]:=hy
 subst h1 h2
 have:=run_equalIn_bool' (P:=P) w (d+n) t x y h
 simp only [Rp.val,rB,List.headD_cons,mA,ji]
 rw [show d+(n+1)=d+n+1 from rfl,this]
 cases x<;>cases y<;>rfl
theorem Si(h:P.underlying t=some .string):ma P t rS (n+1):=fun S cs ds x y d w hx hy=>by
 have h1:cs=[.string ⟨x.toArray⟩]:=hx
 have h2:ds=[.string ⟨y.toArray⟩]:=hy
 subst h1 h2
 have:=run_equalIn_string (P:=P) w (d+n) t ⟨x.toArray⟩ ⟨y.toArray⟩ h
 simp only [Rp.val,rS,List.headD_cons,mA,ji]
 rw [show d+(n+1)=d+n+1 from rfl,this]
 simp only [ByteArray.toList_eq]
 by_cases e:x=y<;>simp [e]
abbrev Fd:=TypeId×Nat×Bool
def Ks(f:Field):Fd:=(f.type,f.offset,f.name== "_")
def Nt(d:Nat)(xs ys:Array Value):List Fd→Sem Bool
 |[]=>pure true
 |f::fs=>
  if f.2.2=false then do
   let a←part f.1 xs f.2.1
   let b←part f.1 ys f.2.1
   let r←Op.equalIn d f.1 a b
   if(!r)=true then pure false else Nt d xs ys fs
  else Nt d xs ys fs
theorem I6(d:Nat)(xs ys:Array Value): ∀fs:List Field,Op.eqFields d xs ys fs=Nt d xs ys (fs.map Ks)
 |[]=>rfl
 |f::fs=>by
  unfold Op.eqFields Nt
  rw [I6 d xs ys fs]
  by_cases h:f.name= "_"
  ·have e:((Ks f).2.2=false)=False:=by simp [Ks,h]
   simp only [yE,e,ji]
   rw [bM (by simpa using h)]
  ·have e:((Ks f).2.2=false)=True:=by simp [Ks,h]
   simp only [yE,e,jW]
   rw [bS (by simpa using h)]
   rfl
def Gk(P:Program){α:Type}(r:Rp α)(n:Nat)(fs:List Fd)(c:α→α→Bool):Prop:=
 ∀(S:SH) (cs ds:List Value) (x y:α) (d:Nat) (w:World),r.rc S cs x→r.rc S ds y→(Nt (d+n) cs.toArray ds.toArray fs).run P w= .ok (c x y) w
theorem Gk.nil:Gk P r n [] (fun _ _=>true):=fun _ _ _ _ _ _ _ _ _=>rfl
theorem tg(ti:TI P t sz bytes agg z)(hsz:q.sz=sz)(hag:q.agg=agg)(hf:m9 r off q get){cs:List Value}{x:α}(hx:r.rc S cs x)(w:World):
  (part t cs.toArray off).run P w= .ok (q.val ((cs.drop off).take q.sz)) w:=by
 have h:=hf S cs x hx
 have hl:=q.len h
 subst hsz hag
 unfold part
 by_cases ha:q.agg=true
 ·have e1:=ti.isAgg w
  simp only [qV,e1,ha,rY,jW,ti.sizeOf,BY]
  unfold Rp.val
  rw [bS ha]
  congr 2
  apply Array.ext'
  simp
 ·rw [zW]at ha
  have e1:=ti.isAgg w
  have hs1:=q.sc ha
  simp only [qV,e1,ha,rY,mA,ji]
  rw [hs1]at hl ⊢
  obtain⟨v,hv⟩:=List.length_eq_one_iff.1 hl
  have hc:cs[off]? =some v:=by
   have:((cs.drop off).take 1)[0]? =some v:=by rw [hv];rfl
   rw [Bg (by omega),xb]at this
   simpa using this
  unfold Rp.val
  rw [hv,ha]
  simp [hc]
theorem Gk.cons [DecidableEq β]{t:Nat}{fs:List Fd}{c:α→α→Bool}(ti:TI P t sz bytes agg z)(hsz:q.sz=sz)(hag:q.agg=agg)(hf:m9 r off q get)(he:ma P t q n)(hr:Gk P r n fs c):
  Gk P r n ((t,off,false)::fs) (fun x y=>decide (get x=get y)&&c x y):=fun S cs ds x y d w hx hy=>by
 have h1:=tg ti hsz hag hf hx w
 have h2:=tg ti hsz hag hf hy w
 have h3:=he S _ _ _ _ d w (hf S cs x hx) (hf S ds y hy)
 unfold Nt
 simp only [jW,qV,h1,h2,h3,rY]
 by_cases e:get x=get y
 ·simp only [e,decide_true,oh,mA,ji,w8]
  exact hr S cs ds x y d w hx hy
 ·simp [e]
theorem zM [DecidableEq α]{t:Nat}{fs:List Fd}{c:α→α→Bool}(ht:(P.underlying t).map (fun d=>match d with| .struct l=>(true,l.toList.map Ks)|_=>(false,[]))=some (true,fs))(hp:P.stoodInHeld t=false)(ha:r.agg=true)(hr:Gk P r n fs c)(hc: ∀x y,c x y=decide (x=y)):ma P t r (n+1):=fun S cs ds x y d w hx hy=>by
 obtain⟨l,h1,h2⟩: ∃l,P.underlying t=some (.struct l)∧l.toList.map Ks=fs:=by
  cases hu:P.underlying t with
  |none=>rw [hu]at ht;cases ht
  |some d=>
   rw [hu]at ht
   cases d<;>simp at ht
   exact⟨_,rfl,ht⟩
 have hfo:P.fieldsOf t=l:=by unfold Program.fieldsOf;rw [h1]
 have:=run_equalIn_struct (P:=P) w (d+n) t cs.toArray ds.toArray (by rw [hfo];exact h1) hp
 rw [td ha,td ha,show d+(n+1)=d+n+1 from rfl,this,hfo,I6,h2,hr S cs ds x y d w hx hy,hc]
theorem ll [DecidableEq α](h:ma P t r n)(m:Nat):ma P t r (m+n):=fun S cs ds x y d w hx hy=>by
 have:=h S cs ds x y (d+m) w hx hy
 rwa [Nat.add_assoc]at this
theorem Mr.of [DecidableEq α](hg:P.eqGuardType P.depth t=false)(h:ma P t r 20):Mr P t r:=⟨hg,fun S cs ds x y d w hx hy=>h S cs ds x y d w hx hy⟩

theorem dN{l:List α}{e:α}(h:xs.drop i=e::l):decide ((i:Int)<(xs.length:Int))=true:=by
 have:i<xs.length:=by
  rcases lu i xs.length with h' |h'
  ·exact h'
  ·rw [Bf h']at h;cases h
 simp;omega
theorem dU(h:xs.drop i=[]):decide ((i:Int)<(xs.length:Int))=false:=by
 have:=zY.1 h
 simp;omega
theorem dl{l:List α}{e:α}(h:xs.drop i=e::l):xs.drop (i+1)=l:=by
 rw [←va,h];rfl
theorem dO{l:List α}{e:α}(h:xs.drop i=e::l):dw xs (i:Int)=some e:=by
 rw [cQ]
 have:=xb (xs:=xs) (i:=i) (j:=0)
 rw [h]at this
 simpa using this.symm
theorem dm{l:List α}{e:α}(h:xs.drop i=e::l)(hN:xs.length≤maxLen):i<9223372036854775807:=by
 have:=of_decide_eq_true (dN h)
 simp only [maxLen]at hN
 omega
theorem TV{k:Nat}(h:N-i=k+1):decide ((i:Int)<(N:Int))=true:=by simp;omega
theorem TW(h:N-i=0):decide ((i:Int)<(N:Int))=false:=by simp;omega
theorem OS{k:Nat}(h:N-i=k+1):N-(i+1)=k:=by omega
theorem OT{k:Nat}(h:N-i=k+1)(hN:N≤9223372036854775807):i<9223372036854775807:=by omega
theorem VR(h:n≤maxLen):n≤9223372036854775807:=by simp only [maxLen]at h;omega
variable{ix:Operand}{zs:List α}
section
variable{e:Exit}
section
variable{ty:TypeId}
theorem yu{one:Operand}{xt yt:TypeId}(hi:i<9223372036854775807)(hx:aZ E.N G x (tD (rI .i64) (i:Int)))(h1:aZ E.N G one (tD (rI .i64) 1)):
  cH E O G ⟨dst,.binOp .add xt x one yt,ty,pos,after,g⟩ (tD (rI .i64) ((i+1:Nat):Int)):=by
 have e:IntKind.i64.wrap ((i:Int)+1)=((i+1:Nat):Int):=by
  rw [yS];omega
 have:=ei (E:=E) (O:=O) (dst:=dst) (ty:=ty) (pos:=pos) (after:=after) (g:=g) (xt:=xt) (yt:=yt) hx h1
 rwa [e]at this
end
theorem ny(hm:m6 mm r T l cap xs∈O)(h:xs.length≤maxLen→CG E Q c O G):CG E Q c O G:=fun a w S st=>by
 refine h ?_ a w S st
 obtain⟨cells,h1,_⟩:=(st.own.mem _ hm).1
 cases l with
 |none=>have:=h1.1;omega
 |some b=>obtain⟨cur,_,g2,g3,_⟩:=h1;exact nf g2 g3
theorem St.dataAt{k:Nat}(h:St E O G a w S)(hk:look G k=some (tO r l cap xs)):St E O ((k,tD (fH r) xs)::G) a w S:=h.cons (h.facts.at_ k _ hk).2
theorem NV(k:Nat)(hk:look G k=some (tO r l cap xs))(h:CG E Q c O ((k,tD (fH r) xs)::G)):CG E Q c O G:=fun a w S st=>h a w S (st.dataAt hk)
theorem ik(k:Nat)(hk:look G k=some (tO r l cap xs))(h:AT E Q e O ((k,tD (fH r) xs)::G)):AT E Q e O G:=fun a w S st=>h a w S (st.dataAt hk)
def ol(l:Option Nat)(off:Nat):Value:=
 match l with
 |none=> .pointer none
 |some b=>aM b off
theorem uc(h:BN mm r T l cap xs w S){e:α}(hi:xs[i]? =some e):
  ∃b cur,l=some b∧w.heap[b]? =some (.cells cur T (0,0))∧xs.length≤cap∧cur.size=cap*r.sz∧r.rc S ((cur.toList.drop (i*r.sz)).take r.sz) e:=by
 obtain⟨cells,h1,h2,_⟩:=h
 have hlt:=(qW.1 hi).1
 cases l with
 |none=>have:=h1.1;omega
 |some b=>
  obtain⟨cur,g1,g2,g3,g4,g5⟩:=h1
  refine⟨b,cur,rfl,g1,g2,g4,?_⟩
  have h3:=C0 h2 hi
  rw [←g5,xe,Ba]at h3
  have h4:i*r.sz+r.sz≤xs.length*r.sz:=by
   rw [←Nat.succ_mul];exact CA _ hlt
  rwa [Bc (by omega)]at h3
theorem lW{i:Int}{e:α}(h:dw xs i=some e):0≤i∧xs[i.toNat]? =some e:=by
 unfold dw at h
 split at h
 ·exact⟨by assumption,h⟩
 ·cases h
section
variable{ty:TypeId}
theorem cV{e:TypeId}{i:Int}(ht:E.P.underlying t=some (.slice e))(ti:TI E.P e sz bytes agg z)(hm:m6 mm r U l cap xs∈O)(hx:aZ E.N G x (tV (aV l cap n)))(hi:aZ E.N G ix (tD (rI k) i))(hy:dw xs i=some y)(hn:n=xs.length:=by rfl):
  cH E O G ⟨dst,.indexAddr t x ix,ty,pos,after,g⟩ (tV (ol l (i.toNat*sz+0))):=
 .of_pure fun a w S _ ho hf=>by
  subst hn
  have h1:a.eval x=aV l cap xs.length:=hx S a hf
  have h3:a.eval ix= .int k i:=fe.1 (hi S a hf)
  obtain⟨h0,hy'⟩:=lW hy
  obtain⟨b,cur,rfl,_⟩:=uc (ho.mem _ hm).1 hy'
  have hlt:i.toNat<xs.length:=(qW.1 hy').1
  refine⟨_,?_,rfl⟩
  have hc:0≤i∧i<(xs.length:Int):=⟨h0,by omega⟩
  simp [execOp,h1,h3,aV,Instr.indexAt,asIntOf,kH ht,hc,ti.sizeOf,jS,ol,aM]
theorem gn{foff:Nat}{i:Int}(ti:TI E.P T sz bytes agg z)(hsz:q.sz=sz)(hag:q.agg=agg)(hget:m9 r foff q get)(hoff:Nat.ble (foff+q.sz) r.sz=true)(hm:m6 mm r U l cap xs∈O)(hy:dw xs i=some y)(hp:aZ E.N G p (tV (ol l (i.toNat*r.sz+foff)))):cH E O G ⟨dst,.load T p,ty,pos,after,g⟩ (tD q (get y)):=
 .of_pure fun a w S _ ho hf=>by
  have h1:a.eval p=ol l (i.toNat*r.sz+foff):=hp S a hf
  obtain⟨h0,hy'⟩:=lW hy
  obtain⟨b,cur,rfl,hb,_,_,h6⟩:=uc (ho.mem _ hm).1 hy'
  have hoff' :=pT hoff
  have h7:=hget S _ _ h6
  rw [xe,Ba,va,Bc (by omega)]at h7
  refine⟨_,?_,_,rfl,h7⟩
  simp [execOp,h1,ol,aM,Instr.loadAt,Instr.sureAddr,la ti hb hsz hag h7]
theorem EV{o:Nat}(hf:cB E.P T i=some (off,sz))(h0:Nat.beq sz 0=false)(hm:m6 mm r U l cap xs∈O)(hy:dw xs j=some y)(hp:aZ E.N G p (tV (ol l o))):
  cH E O G ⟨dst,.fieldAddr T p i,ty,pos,after,g⟩ (tV (ol l (o+off))):=
 .of_pure fun a w S _ ho hF=>by
  have h1:a.eval p=ol l o:=hp S a hF
  obtain⟨_,hy'⟩:=lW hy
  obtain⟨b,cur,rfl,_⟩:=uc (ho.mem _ hm).1 hy'
  obtain⟨fs,f,e1,e2,e3,e4⟩:=Bs hf
  have h0' :sz≠0:=fun e=>by subst e;simp at h0
  refine⟨_,?_,rfl⟩
  simp [execOp,h1,ol,aM,Instr.fieldAt,kH e1,e2,Instr.sureAddr,fieldPlace,e4,h0',e3,jS]
end
theorem GL{α:Type}{r:Rp α}{S:SH}{y:α}{c:List Value}(hc:r.rc S c y): ∀{xs:List α} {i:Nat} {cs:List Value},vt r S cs xs→i<xs.length→vt r S (cs.take (i*r.sz)++c++cs.drop (i*r.sz+r.sz)) (xs.set i y)
 |[],_,_,_,h=>by simp at h
 |x::xs,0,cs,⟨a,b,e,h1,h2⟩,_=>by
  have hl:=r.len h1
  refine⟨c,b,?_,hc,h2⟩
  rw [e,←hl];simp
 |x::xs,i+1,cs,⟨a,b,e,h1,h2⟩,h=>by
  have hl:=r.len h1
  have ih:=GL hc h2 (i:=i) (by simpa using h)
  refine⟨a,_,?_,h1,ih⟩
  have e1:(i+1)*r.sz=a.length+i*r.sz:=by rw [hl,w7];omega
  rw [e,e1,List.take_length_add_append,Nat.add_assoc,List.drop_length_add_append]
  simp
theorem pf{set:α→β→α}{foff:Nat}{v:β}{i:Int}{ty:TypeId}(ti:TI E.P T sz bytes agg z)(hsz:q.sz=sz)(hset:gu r foff q set)(hoff:Nat.ble (foff+q.sz) r.sz=true)(hy:dw xs i=some y)(hz:xs.set i.toNat (set y v)=zs)(hp:aZ E.N G p (tV (ol l (i.toNat*r.sz+foff))))(hx:aZ E.N G x (tD q v))(k:RG E ops Q rest (ga r U l cap zs::O) G):
  RG E ops Q (⟨none,.store T p x,ty,pos,after,none⟩::rest) (ga r U l cap xs::O) G:= .of rfl fun a w S st=>by
 subst hz
 have h1:a.eval p=ol l (i.toNat*r.sz+foff):=hp S a st.facts
 obtain⟨ds,h2,h3⟩:=hx S a st.facts
 obtain⟨h0,hy'⟩:=lW hy
 have hlt:i.toNat<xs.length:=(qW.1 hy').1
 obtain⟨cells,hraw,hrc,hno⟩:=st.own.1.1
 obtain⟨b,cur,rfl,hb,hle,hcs,h6⟩:=uc st.own.1.1 hy'
 obtain⟨cur',hb',hle',hmax,hcs',hct⟩:=hraw
 have hcc:cur' =cur:=by rw [hb]at hb';injection hb' with e;injection e with e1;exact e1.symm
 subst hcc
 have hno' :S b=none:=hno b rfl
 have hoff' :=pT hoff
 have hl3:=q.len h3
 have hmul:i.toNat*r.sz+r.sz≤xs.length*r.sz:=by rw [←Nat.succ_mul];exact CA _ hlt
 have hmul2:xs.length*r.sz≤cur'.size:=by rw [hcs];exact CA _ hle
 obtain⟨w',hr,e1,e2,e3,e4,e5,e6⟩:=lB ti hsz h3 hb (off:=i.toNat*r.sz+foff) (by omega)
 have hrun:(execOp a.eval ⟨none,.store T p x,ty,pos,after,none⟩).run E.P w= .ok .skip w' :=by
  simp [execOp,h1,h2,Instr.storeAt,ol,aM,Instr.sureAddr,hr]
 refine⟨fun c h=>(by cases h),?_⟩
 rw [hrun]
 have hnew:=hset S _ _ _ _ h6 h3
 have hrc' :=GL hnew hrc hlt
 have hcl:=n8 hrc
 have hcells:(cur'.toList.take (i.toNat*r.sz+foff)++ds++cur'.toList.drop (i.toNat*r.sz+foff+q.sz)).take (xs.length*r.sz)=
   cells.take (i.toNat*r.sz)++(((cur'.toList.drop (i.toNat*r.sz)).take r.sz).take foff++ds++((cur'.toList.drop (i.toNat*r.sz)).take r.sz).drop (foff+q.sz))++cells.drop (i.toNat*r.sz+r.sz):=by
  subst hct
  apply Fb
  intro j
  simp only [List.getElem?_take,List.getElem?_append,xb,z8,B0,lw,Dj]
  rcases lu j (xs.length*r.sz)with hj|hj
  ·simp only [hj,jW]
   rcases lu j (i.toNat*r.sz)with hj1|hj1
   ·rw [bS (by omega),bS (by omega),bS (by omega),bS (by omega),bS (by omega),bS (by omega)]
   ·rcases lu j (i.toNat*r.sz+foff)with hj2|hj2
    ·rw [bS (by omega),bS (by omega),bS (by omega),bS (by omega),bM (by omega),bS (by omega),bS (by omega),bS (by omega),bS (by omega)]
     congr 1;omega
    ·rcases lu j (i.toNat*r.sz+foff+q.sz)with hj3|hj3
     ·rw [bS (by omega),bM (by omega),bS (by omega),bM (by omega),bS (by omega),bM (by omega)]
      congr 1;omega
     ·rw [bM (by omega)]
      rcases lu j (i.toNat*r.sz+r.sz)with hj4|hj4
      ·rw [bS (by omega),bM (by omega),bM (by omega),bS (by omega)]
       congr 1;omega
      ·rw [bM (by omega),bS (by omega)]
       congr 1;omega
  ·rw [bM (by omega),bM (by omega),bM (by omega)]
 obtain⟨g1,g2,g3⟩:=rk (O:=O) st.sat (ga r U (some b) cap xs) (ga r U (some b) cap (xs.set i.toNat (set y v))) st.own (fun k=>⟨fun h=>(po h).symm,fun h=>by rw [h];rfl⟩) (fun k=>⟨fun h=>(po h).symm,fun h=>by rw [h];rfl⟩) ⟨e1,e2,e3,e4.1,e4.2⟩ e6
  ⟨_,⟨_,e5,by rw [List.length_set];exact hle,hmax,by simp only [Fa,lw,z8,B0,Dj];omega,by rw [List.length_set];exact hcells⟩,hrc',fun k hk=>by rw [←po hk];exact hno'⟩ hno'
 exact k _ _ S ⟨st.ext.step g1 (fun c hc=>st.own.1.2 c (by rw [hc];rfl)),g2,g3,st.facts⟩

def ot(sz:Nat)(l:Option Nat)(cap lo n:Nat):Value:=
 match l with
 |none=> .slice none 0 0
 |some b=> .slice (some ⟨b,if cap=lo then 0 else lo*sz,none⟩) n (cap-lo)
section
variable{ty:TypeId}
theorem FI(h:BN mm r U l cap xs w S): ∃ad c,aV l cap xs.length= .slice ad xs.length c∧xs.length≤c∧ad=l.map (fun b=>⟨b,0,none⟩)∧(l=none→c=0∧xs=[])∧(l≠none→c=cap):=by
 obtain⟨cells,h1,_⟩:=h
 cases l with
 |none=>
  have hx:xs=[]:=vv h1.1
  subst hx
  exact⟨none,0,rfl,eW _,rfl,fun _=>⟨rfl,rfl⟩,fun h=>absurd rfl h⟩
 |some b=>
  obtain⟨cur,_,g2,_⟩:=h1
  exact⟨_,cap,rfl,g2,rfl,fun h=>(by cases h),fun _=>rfl⟩
theorem sw{hi:Operand}(ht:E.P.underlying t=some (.slice T))(ti:TI E.P T sz bytes agg z)(hsz:r.sz=sz)(hm:m6 mm r U l cap xs∈O)(hx:aZ E.N G x (tV (aV l cap n)))(hhi:aZ E.N G hi (tD (rI k') j))(h:fy xs 0 j=some ys)(hn:n=xs.length:=by rfl):cH E O G ⟨dst,.slice t x none (some hi) none,ty,pos,after,g⟩ (tV (aV l cap ys.length)):=
 .of_pure fun a w S _ ho hf=>by
  subst hsz
  subst hn
  have h1:a.eval x=aV l cap xs.length:=hx S a hf
  obtain⟨ad,c,h2,h3,h4,h5,h5'⟩:=FI (ho.mem _ hm).1
  have h6:=fe.1 (hhi S a hf)
  obtain⟨lo,m,hl,rfl,h7,h8,rfl⟩:=iC h
  have hl0:lo=0:=by omega
  subst hl0
  have hlen:((xs.take m).drop 0).length=m:=by simp;omega
  refine⟨_,?_,rfl⟩
  rw [h2]at h1
  have hr:(execOp a.eval ⟨dst,.slice t x none (some hi) none,ty,pos,after,g⟩).run E.P w= .ok (.value (.slice ad m c)) w:=by
   simp [execOp,Instr.sliceAt,h1,h6,Instr.slice,kH ht,Instr.sliceBounds,mM (k:=k') (n:=(m:Int)) (y:=c) (by omega) (by omega),ti.sizeOf]
   cases ad<;>simp [Addr.add]
  rw [hr,hlen,h4]
  cases l with
  |none=>
   obtain⟨rfl,rfl⟩:=h5 rfl
   have:m=0:=by simpa using h8
   subst this;rfl
  |some b=>rw [h5' (by simp)];rfl
theorem sv{lo:Operand}{i:Int}(ht:E.P.underlying t=some (.slice T))(ti:TI E.P T sz bytes agg z)(hsz:r.sz=sz)(hm:m6 mm r U l cap xs∈O)(hx:aZ E.N G x (tV (aV l cap n)))(hlo:aZ E.N G lo (tD (rI k) i))(h:fy xs i (xs.length:Int)=some ys)(hn:n=xs.length:=by rfl):cH E O G ⟨dst,.slice t x (some lo) none none,ty,pos,after,g⟩ (tV (ot sz l cap i.toNat ys.length)):=
 .of_pure fun a w S _ ho hf=>by
  subst hsz
  subst hn
  have h1:a.eval x=aV l cap xs.length:=hx S a hf
  obtain⟨ad,c,h2,h3,h4,h5,h5'⟩:=FI (ho.mem _ hm).1
  have h6:=fe.1 (hlo S a hf)
  obtain⟨lo',m,rfl,hm',h7,h8,rfl⟩:=iC h
  have hm2:m=xs.length:=by omega
  subst hm2
  have hlen:((xs.take xs.length).drop lo').length=xs.length-lo' :=by simp
  refine⟨_,?_,rfl⟩
  rw [h2]at h1
  have hr:(execOp a.eval ⟨dst,.slice t x (some lo) none none,ty,pos,after,g⟩).run E.P w= .ok (.value (.slice (if c=lo' then ad else ad.map (·.add (lo' *r.sz))) (xs.length-lo') (c-lo'))) w:=by
   simp [execOp,Instr.sliceAt,h1,h6,Instr.slice,kH ht,Instr.sliceBounds,mM (k:=k) (n:=(lo' :Int)) (y:=xs.length) (by omega) (by omega),ti.sizeOf]
  rw [hr,hlen,h4]
  cases l with
  |none=>
   obtain⟨rfl,rfl⟩:=h5 rfl
   have:lo' =0:=by simpa using h7
   subst this;rfl
  |some b=>
   rw [h5' (by simp)]
   unfold ot
   simp only [yG,E9,jS,q7]
   split<;>rfl
theorem Dv{i:Int}(h:fy xs lo hi=some ys)(hy:dw ys i=some y):dw xs (lo+i)=some y∧0≤lo∧0≤i:=by
 obtain⟨l,m,rfl,rfl,h1,h2,rfl⟩:=iC h
 obtain⟨h0,h3⟩:=lW hy
 refine⟨?_,by omega,h0⟩
 obtain⟨j,rfl⟩: ∃j:Nat,i=j:=⟨i.toNat,by omega⟩
 rw [show((l:Int)+(j:Int))=((l+j:Nat):Int)from by omega,cQ]
 rw [xb,yG]at h3
 have hlt:l+j<m:=by
  have:=(qW.1 h3).1
  simp at this;omega
 rwa [Bg hlt]at h3
theorem EU{e:TypeId}{i:Int}(ht:E.P.underlying t=some (.slice e))(ti:TI E.P e sz bytes agg z)(hsz:r.sz=sz)(hm:m6 mm r U l cap xs∈O)(hs:fy xs lo hi=some ys)(hx:aZ E.N G x (tV (ot sz l cap lo.toNat ys.length)))(hi' :aZ E.N G ix (tD (rI k) i))(hy:dw ys i=some y):
  cH E O G ⟨dst,.indexAddr t x ix,ty,pos,after,g⟩ (tV (ol l ((lo+i).toNat*sz+0))):=
 .of_pure fun a w S _ ho hf=>by
  subst hsz
  have h1:a.eval x=ot r.sz l cap lo.toNat ys.length:=hx S a hf
  have h3:a.eval ix= .int k i:=fe.1 (hi' S a hf)
  obtain⟨hxi,hl0,hi0⟩:=Dv hs hy
  obtain⟨_,hx'⟩:=lW hxi
  obtain⟨b,cur,rfl,_,hle,_⟩:=uc (ho.mem _ hm).1 hx'
  have hlt:i.toNat<ys.length:=(qW.1 (lW hy).2).1
  have hlt2:(lo+i).toNat<xs.length:=(qW.1 hx').1
  have hne: ¬(cap=lo.toNat):=by omega
  refine⟨_,?_,rfl⟩
  have hc:0≤i∧i<(ys.length:Int):=⟨hi0,by omega⟩
  have e1:(lo+i).toNat=lo.toNat+i.toNat:=by omega
  simp [execOp,h1,h3,ot,hne,Instr.indexAt,asIntOf,kH ht,hc,ti.sizeOf,jS,ol,aM,e1,w7]
theorem QR{e:TypeId}(ht:E.P.underlying t=some (.slice e))(hm:m6 mm r U l cap xs∈O)(hs:fy xs lo hi=some ys)(hx:aZ E.N G x (tV (ot sz l cap lo.toNat ys.length))):
  cH E O G ⟨dst,.call ⟨.builtin .len,#[x],#[t]⟩,ty,pos,after,g⟩ (tD (rI .i64) (ys.length:Int)):=
 .of_pure fun a w S _ ho hf=>by
  have h1:a.eval x=ot sz l cap lo.toNat ys.length:=hx S a hf
  obtain⟨ad,c,h3⟩: ∃ad c,ot sz l cap lo.toNat ys.length= .slice ad ys.length c:=by
   cases l with
   |none=>
    obtain⟨_,h2,_⟩:=(ho.mem _ hm).1
    have hx0:xs=[]:=vv h2.1
    subst hx0
    obtain⟨l',m,_,_,_,h8,rfl⟩:=iC hs
    exact⟨none,0,by simp [ot]⟩
   |some b=>exact⟨_,_,rfl⟩
  refine⟨.int .i64 ys.length,?_,fe.2 rfl⟩
  simp [execOp,resolve,invoke,builtin,Builtin.len_,kH ht,h1,h3,goInt]
end
theorem Sq(h:fy xs 0 j=some ys)(k:BN false r U l cap xs w S):BN false r U l cap ys w S:=by
 obtain⟨lo,m,hl,rfl,h7,h8,rfl⟩:=iC h
 have hl0:lo=0:=by omega
 subst hl0
 obtain⟨cells,h1,h2,h3⟩:=k
 have hlen:((xs.take m).drop 0).length=m:=by simp;omega
 have h4:vt r S (cells.take (m*r.sz)) (xs.take m):=by
  have e:xs=xs.take m++xs.drop m:=(vb _ _).symm
  rw [e]at h2
  have:=(rj h2).1
  rwa [show(xs.take m).length=m from by simp;omega]at this
 refine⟨cells.take (m*r.sz),?_,by simpa using h4,fun b hb=>h3 b hb⟩
 rw [hlen]
 cases l with
 |none=>
  obtain⟨g1,g2⟩:=h1
  exact⟨by omega,by rw [g2];simp⟩
 |some b=>
  obtain⟨cur,g1,g2,g3,g4,g5⟩:=h1
  exact⟨cur,g1,by omega,g3,g4,by rw [←g5,Ba,Bc (CA _ h8)]⟩
theorem St.cut(h:fy xs 0 j=some ys)(st:St E (ga r U l cap xs::O) G a w S):St E (ga r U l cap ys::O) G a w S:=
 st.own_map fun ho=>⟨⟨Sq h ho.1.1,ho.1.2⟩,ho.2.1,ho.2.2⟩
theorem Ez(h:fy xs 0 j=some ys)(k:RG E ops Q rest (ga r U l cap ys::O) G):RG E ops Q rest (ga r U l cap xs::O) G:=fun a w S st=>k a w S (st.cut h)
theorem AT.cut(h:fy xs 0 j=some ys)(k:AT E Q e (ga r U l cap ys::O) G):AT E Q e (ga r U l cap xs::O) G:=fun a w S st=>k a w S (st.cut h)
theorem LG.cut(h:fy xs 0 j=some ys)(k:LG E Q c (ga r U l cap ys::O) G):LG E Q c (ga r U l cap xs::O) G:=fun a w S st=>k a w S (st.cut h)
theorem St.viewAt{k:Nat}(hs:fy xs lo hi=some ys)(h:St E (tip r U l cap xs::O) G a w S)(hk:look G k=some (tV (ot r.sz l cap lo.toNat ys.length))):
  St E (tip r U l cap xs::O) ((k,tD (fH r) ys)::G) a w S:=by
 have hv:a.tmps.getD k undef=ot r.sz l cap lo.toNat ys.length:=h.facts.at_ k _ hk
 refine h.cons ?_
 rw [hv]
 obtain⟨l',m,rfl,rfl,h7,h8,rfl⟩:=iC hs
 have hd:=nE h.own.1.1
 obtain⟨ad,c,h1,h2,h3,h4⟩:=n6.1 hd
 have hlen:((xs.take m).drop l').length=m-l' :=by simp;omega
 cases l with
 |none=>
  obtain⟨cells,g1,_⟩:=h.own.1.1
  have hx:xs=[]:=vv g1.1
  subst hx
  have e:((([]:List α).take m).drop l')=[]:=by simp
  rw [e]
  exact GA
 |some b=>
  have e1:Value.slice (some ⟨b,0,none⟩) xs.length cap= .slice ad xs.length c:=h1
  injection e1 with e2 _ e3
  subst e2
  subst e3
  have h5:=Dw h4 h7 h8 h2
  refine n6.2 ⟨_,cap-l',?_,by omega,by omega,h5⟩
  unfold ot
  simp only [yG,hlen,E9,jS,q7]
  split<;>rfl
end

variable{x0 x4 x5 x6 x7:OE}
section
variable{e:Exit}
theorem uo{O:List OE}(h:du base B w S (x0::x1::x2::x3::x4::x5::O)):du base B w S (x5::x0::x1::x2::x3::x4::O):=
 (vK h uq (fun f hf=>by simp only [jl]at hf ⊢;rcases hf with h|h|h|h|h|h<;>simp [h])).swap
theorem ry(h:RG E ops Q rest (x5::x0::x1::x2::x3::x4::O) G):RG E ops Q rest (x0::x1::x2::x3::x4::x5::O) G:=fun a w S st=>h a w S (st.own_map uo)
theorem cq(h:AT E Q e (x5::x0::x1::x2::x3::x4::O) G):AT E Q e (x0::x1::x2::x3::x4::x5::O) G:=fun a w S st=>h a w S (st.own_map uo)
theorem kY(h:LG E Q c (x5::x0::x1::x2::x3::x4::O) G):LG E Q c (x0::x1::x2::x3::x4::x5::O) G:=fun a w S st=>h a w S (st.own_map uo)
theorem wH{O:List OE}(h:du base B w S (x0::x1::x2::x3::x4::x5::x6::O)):du base B w S (x6::x0::x1::x2::x3::x4::x5::O):=
 (vK h uo (fun f hf=>by simp only [jl]at hf ⊢;rcases hf with h|h|h|h|h|h|h<;>simp [h])).swap
theorem BR(h:RG E ops Q rest (x6::x0::x1::x2::x3::x4::x5::O) G):RG E ops Q rest (x0::x1::x2::x3::x4::x5::x6::O) G:=fun a w S st=>h a w S (st.own_map wH)
theorem j9(h:AT E Q e (x6::x0::x1::x2::x3::x4::x5::O) G):AT E Q e (x0::x1::x2::x3::x4::x5::x6::O) G:=fun a w S st=>h a w S (st.own_map wH)
theorem wG{O:List OE}(h:du base B w S (x0::x1::x2::x3::x4::x5::x6::x7::O)):du base B w S (x7::x0::x1::x2::x3::x4::x5::x6::O):=
 (vK h wH (fun f hf=>by simp only [jl]at hf ⊢;rcases hf with h|h|h|h|h|h|h|h<;>simp [h])).swap
theorem NO(h:RG E ops Q rest (x7::x0::x1::x2::x3::x4::x5::x6::O) G):RG E ops Q rest (x0::x1::x2::x3::x4::x5::x6::x7::O) G:=fun a w S st=>h a w S (st.own_map wG)
theorem tP(h:AT E Q e (x7::x0::x1::x2::x3::x4::x5::x6::O) G):AT E Q e (x0::x1::x2::x3::x4::x5::x6::x7::O) G:=fun a w S st=>h a w S (st.own_map wG)
theorem BT(h:LG E Q c (x7::x0::x1::x2::x3::x4::x5::x6::O) G):LG E Q c (x0::x1::x2::x3::x4::x5::x6::x7::O) G:=fun a w S st=>h a w S (st.own_map wG)
end

theorem jJ(h:xs.set i y=zs):zs.length=xs.length:=by rw [←h,List.length_set]
section
theorem gT{m:Nat}(hl:m=n)(s:Nat)(hs:look G s=some (tV (aV l cap n)))(k:RG E ops Q rest O ((s,tV (aV l cap m))::G)):RG E ops Q rest O G:=by
 subst hl
 exact fun a w S st=>k a w S (st.cons (st.facts.at_ s _ hs))
end

theorem ui{o1 o2:Nat}{g1:α→β}{g2:β→γ}(h1:m9 r o1 q g1)(h2:m9 q o2 s g2)(hb:Nat.ble (o2+s.sz) q.sz=true:=by rfl):m9 r (o1+o2) s (fun x=>g2 (g1 x)):=fun S cs x h=>by
 have h3:=h2 S _ _ (h1 S cs x h)
 have hb' :=pT hb
 rwa [xe,Ba,va,Bc (by omega)]at h3
theorem yg{o1 o2:Nat}{g1:α→β}{u1:α→β→α}{u2:β→γ→β}(h1:m9 r o1 q g1)(k1:gu r o1 q u1)(k2:gu q o2 s u2)(hb:Nat.ble (o2+s.sz) q.sz=true:=by rfl)(hc:Nat.ble (o1+q.sz) r.sz=true:=by rfl):
  gu r (o1+o2) s (fun x y=>u1 x (u2 (g1 x) y)):=fun S cs x ds y h hy=>by
 have hb' :=pT hb
 have hc' :=pT hc
 have hl:=r.len h
 have h3:=k1 S cs x _ _ h (k2 S _ _ ds y (h1 S cs x h) hy)
 have e:cs.take (o1+o2)++ds++cs.drop (o1+o2+s.sz)=cs.take o1++(((cs.drop o1).take q.sz).take o2++ds++((cs.drop o1).take q.sz).drop (o2+s.sz))++cs.drop (o1+q.sz):=by
  rw [Ba,Bc (by omega),xe,va,List.take_add,show o1+(o2+s.sz)=o1+o2+s.sz from by omega]
  simp only [iS]
  congr 3
  have e2:cs.drop (o1+q.sz)=(cs.drop (o1+o2+s.sz)).drop (q.sz-(o2+s.sz)):=by rw [va];congr 1;omega
  rw [e2,vb]
 rw [e];exact h3

def d2(P:Program)(f:FuncId)(ts:List Ty)(O1:List OE){ι:Type}(t:ι→Ty)(O2:ι→List OE):Prop:=
 ∀w S vs,jU w S→wZ S ts vs→du 0 qq w S O1→Calls P f vs.toArray w fun en w' => ∃i v S',en= .returned v∧(t i).p S' v∧gW (fun k=> ∃f∈O1,f.fp k) w S w' S' ∧jU w' S' ∧du 0 qq w' S' (O2 i)∧ ∀k,(∃f∈O2 i,f.fp k)→(∃f∈O1,f.fp k)∨w.heap.size≤k
def PK(E:En)(O1:List OE){ι:Type}(t:ι→Ty)(O2:ι→List OE):Ending→World→Prop:=fun en w' =>
 ∃i v S',en= .returned v∧(t i).p S' v∧gW E.B E.w0 E.S0 w' S' ∧jU w' S' ∧du 0 qq w' S' (O2 i)∧ ∀k,(∃f∈O2 i,f.fp k)→(∃f∈O1,f.fp k)∨E.w0.heap.size≤k
def zI(O1:List OE):Nat→Prop:=fun k=> ∃f∈O1,f.fp k
theorem d2.of{t:ι→Ty}(hf:P.funcs[f]? =some fn)(hb:fn.body=some c)(hN:fn.ntmps=N)(hn:Nat.ble ts.length N=true)(h: ∀w0 S0,CG ⟨P,⟨N,[]⟩,zI O1,w0,S0,none⟩ (bodyPost P fn (PK ⟨P,⟨N,[]⟩,zI O1,w0,S0,none⟩ O1 t O2)) c O1 (uT 0 ts)):d2 P f ts O1 t O2:=by
 subst hN
 intro w S vs hs hv ho
 exact lj.1 (Dg (F:=fw none) (n:=0) hf hb trivial (h w S _ w S ⟨gF _ _ _,hs,lG ho fun f hf k hk=> .inr ⟨f,hf,hk⟩,oN hv _ (pT hn)⟩))
theorem Hp{t:ι→Ty}{v:Value}(st:St E O G a w S)(hB:E.B=zI O1)(i:ι)(hO:O=O2 i)(hv:(t i).p S v):PK E O1 t O2 (.returned v) w:=by
 subst hO
 refine⟨i,v,S,rfl,hv,st.ext,st.sat,st.own.weak,fun k ⟨f,hf,hk⟩=>?_⟩
 rcases(du.mem st.own f hf).2 k hk with h|h
 ·exact .inr h
 ·rw [hB]at h;exact .inl h
section
variable{t:ι→Ty}
theorem vQ{k:Nat}{u:Ty}(hr:fn.results= #[.tmp k])(i:ι)(hO:O=O2 i)(hk:look G k=some u)(hu: ∀S v,u.p S v→(t i).p S v):
  AT ⟨P,⟨N,[]⟩,zI O1,w0,S0,none⟩ (bodyPost P fn (PK ⟨P,⟨N,[]⟩,zI O1,w0,S0,none⟩ O1 t O2)) .ret O G:=fun _ _ S st=>
 ⟨st.facts.defers,_,lC P fn k hr _ _,Hp st rfl i hO (hu S _ (st.facts.at_ k u hk))⟩
end
theorem du.join: ∀{O1 O2:List OE},du base B w S O1→du base B w S O2→(∀e∈O1,∀f∈O2,e.apart f)→du base B w S (O1++O2)
 |[],_,_,h,_=>h
 |e::O1,O2,⟨h1,h2,h3⟩,h,ha=>⟨h1,fun f hf=>(wT.1 hf).elim (h2 f) (ha e (iA ..) f),du.join h3 h fun g hg f hf=>ha g (pS _ hg) f hf⟩
section
variable{ty:TypeId}
theorem St.turn{Or O2:List OE}(st:St E (O1++Or) G a w S)(hx:gW (fun k=> ∃f∈O1,f.fp k) w S w' S')(hs:jU w' S')(ho:du 0 qq w' S' O2)(hn: ∀k,(∃f∈O2,f.fp k)→(∃f∈O1,f.fp k)∨w.heap.size≤k):St E (O2++Or) G a w' S' :=by
 obtain⟨h1,h2,h3⟩:=nV st.own
 have hbl:=st.base_le
 refine⟨st.ext.step hx (fun b ⟨f,hf,hb⟩=>(du.mem h1 f hf).2 b hb),hs,du.join (lG ho fun f hf k hk=>?_) (h2.ext hx fun f hf b hb ⟨g,hg,hgb⟩=>h3 g hg f hf b hgb hb) (fun e he f hf b heb hfb=>?_),st.facts.mono hx.keep⟩
 ·rcases hn k ⟨f,hf,hk⟩with⟨g,hg,hgk⟩|h
  ·exact(du.mem h1 g hg).2 k hgk
  ·exact .inl (nf hbl h)
 ·rcases hn b ⟨e,he,heb⟩with⟨g,hg,hgb⟩|h
  ·exact h3 g hg f hf b hgb hfb
  ·have:=f.here (du.mem h2 f hf).1 b hfb
   omega
theorem Jr{xs:List Operand}(O1 Or:List OE){t:ι→Ty}(hO:O=O1++Or)(hc:av E.P f=true)(hs:d2 E.P f ts O1 t O2)(hx:jE E.N G xs ts)(hd:Nat.blt d E.N.n=true)(k: ∀i,RG E ops Q rest (O2 i++Or) ((d,t i)::G)):
  RG E ops Q (⟨some d,.call ⟨.value (.func f),xs.toArray,ats⟩,ty,pos,after,none⟩::rest) O G:= .of rfl fun a w S st=>by
 subst hO
 have hr:(execOp a.eval ⟨some d,.call ⟨.value (.func f),xs.toArray,ats⟩,ty,pos,after,none⟩).run E.P w= .ok (.enter f (xs.map a.eval).toArray) w:=by
  simp [execOp,resolve,Act.eval,Deferred.ofValue,invoke,gL hc]
 refine⟨fun c h=>(by cases h),?_⟩
 rw [hr]
 refine(hs w S _ st.sat (hx.tys st.facts) (nV st.own).1.weak).mono fun en w' ⟨i,v,S',he,hv,h1,h2,h3,h4⟩=>⟨_,he,?_⟩;exact k i _ _ S' ((st.turn h1 h2 h3 h4).put hd hv)
end

structure OI where
 h:Nat→Option Nat×Nat:=fun _=>(none,0)
 os:List (Option Nat×Nat):=[]
 fp:Nat→Prop:=qq
 v:Value:=undef
 ng:Nat→(Option Nat×Nat)×(Nat→Option Nat×Nat):=fun _=>((none,0),fun _=>(none,0))
def nz:OI:={}
def oi(l:Option Nat)(c:Nat):OI:={h:=fun _=>(l,c)}
def EffOK(E:En)(O:List OE)(need:mz)(o:Oper)(post:OI→List OE)(t:OI→Ty):Prop:=
 ∀a w S,jU w S→du E.base E.B w S O→dr E.N S a need→E.base≤w.heap.size→
  Iy E.P o a w (fun a' w' => ∃v S' x,a' =a.put o.dst v∧gW (zI O) w S w' S' ∧jU w' S' ∧du E.base E.B w' S' (post x)∧(t x).p S' v)
variable{post:OI→List OE}{t' :TypeId}
section
variable{ty:TypeId}
theorem KD{y:Operand}{u:OI→Ty}(ti:TI E.P T sz bytes agg z)(hsz:r.sz=sz)(hz:Nat.beq z.length sz=true)(h0:Nat.blt 0 sz=true)(h128:Nat.ble bytes 2048=true)(ht:E.P.underlying t=some (.slice T))(hx:aZ E.N G x (tV (aV l cap n)))(hy: ∀a w S,jU w S→dr E.N S a G→ ∃news,Src E.P r.sz t' (a.eval y) ys.length news w∧vt r S news ys)(happ:kq xs ys=some zs)(hu: ∀l' cap' w0 S,(m6 mm r T l' cap' zs).p w0 S→(u (oi l' cap')).p S (aV l' cap' zs.length))(hn:n=xs.length):
  EffOK E (m6 mm r T l cap xs::O) G ⟨some d,.call ⟨.builtin .append,#[x,y],#[t,t']⟩,ty,pos,after,g⟩ (fun i=>m6 mm r T (i.h 0).1 (i.h 0).2 zs::O) u:=fun a w S hs ho hf hb=>by
 subst hn
 have h1:a.eval x=aV l cap xs.length:=hx S a hf
 obtain⟨news,h2,h3⟩:=hy a w S hs hf
 obtain⟨l',cap',w',S',hr,hext,hsat,hh,hnew⟩:=xu (ty:=ty) ti hsz hz h0 h128 ht hs ho.1 hb h2 h3 happ
 have hrun:(execOp a.eval ⟨some d,.call ⟨.builtin .append,#[x,y],#[t,t']⟩,ty,pos,after,g⟩).run E.P w= .ok (.value (aV l' cap' zs.length)) w' :=by
  simp [execOp,resolve,invoke,builtin,h1,hr]
 refine⟨fun c h=>(by cases h),?_⟩
 rw [hrun]
 refine⟨_,S',oi l' cap',rfl,hext.more fun b hb=>⟨_,iA ..,hb⟩,hsat,⟨hh,fun f hf b hb hfb=>?_,ho.2.2.ext hext fun f hf b hb hbl=>ho.2.1 f hf b hbl hb⟩,hu l' cap' w' S' hh.1⟩
 rcases hnew b hb with h|h
 ·exact ho.2.1 f hf b h hfb
 ·have:=f.here (du.mem ho.2.2 f hf).1 b hfb
  omega
theorem jR{y:Operand}(ti:TI E.P T sz bytes agg z)(hsz:r.sz=sz)(hz:Nat.beq z.length sz=true)(h0:Nat.blt 0 sz=true)(h128:Nat.ble bytes 2048=true)(ht:E.P.underlying t=some (.slice T))(ht' :t' =t)(hx:aZ E.N G x (tO r l cap xs))(hy:aZ E.N G y (tD (fH r) ys))(happ:kq xs ys=some zs):
  EffOK E (tip r T l cap xs::O) G ⟨some d,.call ⟨.builtin .append,#[x,y],#[t,t']⟩,ty,pos,after,g⟩ (fun i=>tip r T (i.h 0).1 (i.h 0).2 zs::O) (fun i=>tO r (i.h 0).1 (i.h 0).2 zs):=by
 subst ht'
 exact KD ti hsz hz h0 h128 ht (Bl hx) (fun a w S hs hf=>xm ht hs (hy S a hf)) happ (fun _ _ _ _ h=>⟨rfl,nE h⟩) rfl
theorem F9{xs:List Operand}{u:OI→Ty}(hc:av E.P f=true)(hs:gK E.P f ts mm r T ys)(hx:jE E.N G xs ts)(hu: ∀l cap w0 S,(m6 mm r T l cap ys).p w0 S→(u (oi l cap)).p S (aV l cap ys.length)):
  EffOK E O G ⟨some d,.call ⟨.value (.func f),xs.toArray,ats⟩,ty,pos,after,g⟩ (fun i=>m6 mm r T (i.h 0).1 (i.h 0).2 ys::O) u:=fun a w S hsat ho hf hb=>by
 have hr:(execOp a.eval ⟨some d,.call ⟨.value (.func f),xs.toArray,ats⟩,ty,pos,after,g⟩).run E.P w= .ok (.enter f (xs.map a.eval).toArray) w:=by
  simp [execOp,resolve,Act.eval,Deferred.ofValue,invoke,gL hc]
 refine⟨fun c h=>(by cases h),?_⟩
 rw [hr]
 exact(hs w S _ hsat (hx.tys hf)).mono fun e w' ⟨l,cap,S',he,h1,h2,h3⟩=>⟨_,he,_,S',oi l cap,rfl,h1.more fun _ hb=>hb.elim,h2,pO ho h1 h3.1 (fun b hb=>(h3.2 b hb).resolve_right id) hb,hu l cap w' S' h3.1⟩
theorem gK.tip(h:gK P f ts mm r T ys):gK P f ts true r T ys:=by
 cases mm with
 |true=>exact h
 |false=>
  intro w S vs hs hv
  refine(h w S vs hs hv).mono fun e w' ⟨l,cap,S',he,h1,h2,h3⟩=>?_
  have st:St ⟨default,⟨0,[]⟩,qq,w,S,none⟩ [ga r T l cap ys] [] ⟨#[],[]⟩ w' S' :=⟨h1,h2,⟨h3,fun _ hf=>(by cases hf),trivial⟩,⟨rfl,rfl,fun _ _ h=>(by simp [look]at h)⟩⟩
  obtain⟨S'',h4⟩:=st.freeze
  exact⟨l,cap,S'',he,h4.ext,h4.sat,h4.own.1⟩
theorem Nu{xs:List Operand}(hc:av E.P f=true)(hs:gK E.P f ts mm r T ys)(hx:jE E.N G xs ts):
  EffOK E O G ⟨some d,.call ⟨.value (.func f),xs.toArray,ats⟩,ty,pos,after,g⟩ (fun i=>Go.Proofs.YtnmjbolollcokaaGreatDoor.tip r T (i.h 0).1 (i.h 0).2 ys::O) (fun i=>tO r (i.h 0).1 (i.h 0).2 ys):=F9 hc hs.tip hx (fun _ _ _ _ h=>⟨rfl,nE h⟩)
theorem du.turn{Or O2:List OE}(h:du base B w S (O1++Or))(hbl:base≤w.heap.size)(hx:gW (zI O1) w S w' S')(ho:du 0 qq w' S' O2)(hn: ∀k,(∃f∈O2,f.fp k)→(∃f∈O1,f.fp k)∨w.heap.size≤k):du base B w' S' (O2++Or):=by
 obtain⟨h1,h2,h3⟩:=nV h
 refine du.join (lG ho fun f hf k hk=>?_) (h2.ext hx fun f hf b hb ⟨g,hg,hgb⟩=>h3 g hg f hf b hgb hb) (fun e he f hf b heb hfb=>?_)
 ·rcases hn k ⟨f,hf,hk⟩with⟨g,hg,hgk⟩|h
  ·exact(du.mem h1 g hg).2 k hgk
  ·exact .inl (nf hbl h)
 ·rcases hn b ⟨e,he,heb⟩with⟨g,hg,hgb⟩|h
  ·exact h3 g hg f hf b hgb hfb
  ·have:=f.here (du.mem h2 f hf).1 b hfb
   omega
theorem iI{xs:List Operand}(O1 Or:List OE){t:OI→Ty}{O2:OI→List OE}(hO:O=O1++Or)(hc:av E.P f=true)(hs:d2 E.P f ts O1 t O2)(hx:jE E.N G xs ts)(hpost: ∀i,O2 i++Or=post i):
  EffOK E O G ⟨some d,.call ⟨.value (.func f),xs.toArray,ats⟩,ty,pos,after,g⟩ post t:=fun a w S hsat ho hf hb=>by
 subst hO
 obtain rfl:(fun i=>O2 i++Or)=post:=funext hpost
 have hr:(execOp a.eval ⟨some d,.call ⟨.value (.func f),xs.toArray,ats⟩,ty,pos,after,g⟩).run E.P w= .ok (.enter f (xs.map a.eval).toArray) w:=by
  simp [execOp,resolve,Act.eval,Deferred.ofValue,invoke,gL hc]
 refine⟨fun c h=>(by cases h),?_⟩
 rw [hr]
 exact(hs w S _ hsat (hx.tys hf) (nV ho).1.weak).mono fun en w' ⟨i,v,S',he,hv,h1,h2,h3,h4⟩=>⟨_,he,v,S',i,rfl,h1.more fun b ⟨f,hf,hb⟩=>⟨f,Dk _ hf,hb⟩,h2,du.turn ho hb h1 h3 h4,hv⟩
theorem nw{op:Op}{t:OI→Ty}(h:EffOK E O G ⟨some d,op,ty,pos,after,none⟩ post t)(hd:Nat.blt d E.N.n=true)(k: ∀x:OI,RG E ops Q rest (post x) ((d,t x)::G)):RG E ops Q (⟨some d,op,ty,pos,after,none⟩::rest) O G:= .of rfl fun a w S st=>
 o5 (fun a' w' ⟨v,S',x,ha,hx,hs,ho,hv⟩=>by
  subst ha
  exact k x _ _ S' ⟨st.ext.step hx fun b ⟨f,hf,hb⟩=>(du.mem st.own f hf).2 b hb,hs,ho,(st.facts.mono hx.keep).put hd hv⟩) (h a w S st.sat st.own st.facts st.base_le)
end

def EI(σ:Nat→OI)(k:Nat)(x:OI):Nat→OI:=fun j=>bif Nat.beq j k then x else σ j
theorem Oc(σ:Nat→OI)(k:Nat)(x:OI):EI σ k x k=x:=by simp [EI]
theorem Dp(σ:Nat→OI){k j:Nat}(x:OI)(h:j≠k):EI σ k x j=σ j:=by
 have:Nat.beq j k=false:=by
  cases hb:Nat.beq j k with
  |false=>rfl
  |true=>exact absurd (pj hb) h
 simp [EI,this]
structure NE where
 slot:Nat
 ty:(Nat→OI)→Ty
 src:Option Nat
def XS(G:mz)(ts:List (OI→Ty))(n:NE):Prop:=
 match n.src with
 |some j=> ∀σ,(ts[j]?).map (fun f=>f (σ j))=some (n.ty σ)
 |none=> ∀σ,look G n.slot=some (n.ty σ)
def Mh(G:mz)(ts:List (OI→Ty)):List NE→Prop
 |[]=>True
 |n::l=>XS G ts n∧Mh G ts l
theorem Mh.mem{ts:List (OI→Ty)}: ∀{l:List NE},Mh G ts l→ ∀n∈l,XS G ts n
 |_::_,⟨h,_⟩,_,.head _=>h
 |_::_,⟨_,h⟩,_,.tail _ hm=>Mh.mem h _ hm
def iO(E:En)(ops:Array Oper)(O:List OE)(need:mz)(o:Oper)(post:OI→List OE)(t:OI→Ty):Prop:=
 ∀a w S,jU w S→du E.base E.B w S O→dr E.N S a need→E.base≤w.heap.size→
  if Region.wanted o (yielded ops a.tmps)then Iy E.P o a w (fun a' w' => ∃v S' x,a' =a.put o.dst v∧gW (zI O) w S w' S' ∧jU w' S' ∧du E.base E.B w' S' (post x)∧(t x).p S' v)
  else∃x,du E.base E.B w S (post x)∧(t x).p S undef
theorem bN{need:mz}{t:OI→Ty}(hg:o.guard=none)(h:EffOK E O need o post t):iO E ops O need o post t:=fun a w S hs ho hf hb=>by
 have:Region.wanted o (yielded ops a.tmps)=true:=by unfold Region.wanted;rw [hg]
 rw [this,bS rfl]
 exact h a w S hs ho hf hb
def gJ(es:List Bool)(i:Nat):Nat:=(es.take i).countP (· ==true)
def KI(L:List Oper)(es:List Bool):Bool:=(List.range es.length).all fun i=>(List.range i).all fun j=> !((es[i]?).getD false&&(es[j]?).getD false)||n7 L L.length i j
structure Y9(E:En)(G:mz)(l:List Oper)(ts:List (OI→Ty))(Om:Nat→(Nat→OI)→List OE)(es:List Bool)(done:Array Bool)(a:Act)(w:World)(S:SH)(σ:Nat→OI)(c:Nat):Prop where
 ext:gW E.B E.w0 E.S0 w S
 sat:jU w S
 own:du E.base E.B w S (Om c σ)
 size:a.tmps.size=E.N.n
 defers:a.defers=E.N.ds
 dsz:done.size=l.length
 down: ∀j o,l[j]? =some o→done.getD j false=true→ ∀e∈o.after,Region.binds .any e=true→done.getD e.on false=true
 old: ∀k t,look G k=some t→(∀j o,l[j]? =some o→done.getD j false=true→o.dst≠some k)→t.p S (a.tmps.getD k undef)
 new: ∀j o d f,l[j]? =some o→done.getD j false=true→o.dst=some d→ts[j]? =some f→(f (σ j)).p S (a.tmps.getD d undef)
 chain: ∀k,es[k]? =some true→(done.getD k false=true↔gJ es k<c)
variable{es:List Bool}
theorem Es: ∀{i j:Nat},i<j→es[i]? =some true→gJ es i<gJ es j:=by
 induction es with
 |nil=>intro i j _ h;simp at h
 |cons e es ih=>
  intro i j hij h
  cases j with
  |zero=>omega
  |succ j=>
   cases i with
   |zero=>simp at h;subst h;simp [gJ]
   |succ i=>
    have:=ih (i:=i) (j:=j) (by omega) (by simpa using h)
    cases e<;>simp [gJ]at this ⊢ <;>omega
theorem wF: ∀{c k:Nat},c<gJ es k→ ∃i,i<k∧es[i]? =some true∧gJ es i=c:=by
 induction es with
 |nil=>intro c k h;simp [gJ]at h
 |cons e es ih=>
  intro c k h
  cases k with
  |zero=>simp [gJ]at h
  |succ k=>
   cases e with
   |false=>
    obtain⟨i,h1,h2,h3⟩:=ih (c:=c) (k:=k) (by simpa [gJ] using h)
    exact⟨i+1,by omega,by simpa using h2,by simpa [gJ] using h3⟩
   |true=>
    cases c with
    |zero=>exact⟨0,by omega,rfl,by simp [gJ]⟩
    |succ c=>
     obtain⟨i,h1,h2,h3⟩:=ih (c:=c) (k:=k) (by simp [gJ]at h ⊢;omega)
     exact⟨i+1,by omega,by simpa using h2,by simp [gJ]at h3 ⊢;omega⟩
section
variable{ts:List (OI→Ty)}{Om:Nat→(Nat→OI)→List OE}
theorem Y9.step{σ:Nat→OI}{c c' :Nat}(h:Y9 E G L ts Om es done a w S σ c){f:OI→Ty}{v:Value}{x:OI}{C:Nat→Prop}(hi:L[i]? =some o)(hd:o.dst=some d)(hdN:d<E.N.n)(hs2: ∀j p,L[j]? =some p→done.getD j false=true→p.dst=some d→i=j)(hwait: ∀e∈o.after,Region.binds .any e=true→done.getD e.on false=true)(ht:ts[i]? =some f)(hun:done.getD i true=false)(hext:gW C w S w' S')(hC: ∀b,C b→E.base≤b∨E.B b)(hsat:jU w' S')(hown:du E.base E.B w' S' (Om c' (EI σ i x)))(hv:(f x).p S' v)(hch: ∀k,es[k]? =some true→((done.setIfInBounds i true).getD k false=true↔gJ es k<c')):
  Y9 E G L ts Om es (done.setIfInBounds i true) (a.put o.dst v) w' S' (EI σ i x) c' :=by
 have hda:d<a.tmps.size:=by rw [h.size];exact hdN
 have hlt:i<done.size:=by rw [h.dsz];exact(qW.1 hi).1
 have hset: ∀j,(done.setIfInBounds i true).getD j false=true→j=i∨done.getD j false=true:=fun j hj=>by
  by_cases hij:i=j
  ·exact .inl hij.symm
  ·rw [vw false hij]at hj;exact .inr hj
 have hseti:(done.setIfInBounds i true).getD i false=true:=by simp [hlt]
 have hun' :done.getD i false=false:=by simp [hlt]at hun ⊢;exact hun
 refine⟨h.ext.step hext hC,hsat,hown,?_,?_,by simp [h.dsz],fun j p hj hdone e he hb=>?_,fun k u hk hno=>?_,fun j p d' u hj hdone hd' hu=>?_,hch⟩
 ·rw [hd];simp [Act.put,h.size]
 ·rw [hd];exact h.defers
 ·rcases hset j hdone with rfl|hj'
  ·rw [hi]at hj
   have:o=p:=by simpa using hj
   subst this
   exact vR (hwait e he hb)
  ·exact vR (h.down j p hj hj' e he hb)
 ·have hne:d≠k:=fun e=>hno i o hi hseti (by rw [hd,e])
  rw [hd,rM hda,bM hne]
  exact u.mono hext.keep (h.old k u hk fun j p hj hdone=>hno j p hj (vR hdone))
 ·rw [hd,rM hda]
  by_cases hij:j=i
  ·subst hij
   rw [hi]at hj
   have:o=p:=by simpa using hj
   subst this
   rw [hd]at hd'
   have:d=d' :=by simpa using hd'
   subst this
   rw [bS rfl]
   rw [ht]at hu
   have:f=u:=by simpa using hu
   subst this
   rw [Oc]
   exact hv
  ·have hj' :=(hset j hdone).resolve_left hij
   have hne:d≠d' :=fun e=>by
    subst e
    have:=hs2 j p hj hj' hd'
    exact hij this.symm
   rw [bM hne,Dp σ x hij]
   exact Ty.mono _ hext.keep (h.new j p d' u hj hj' hd' hu)
end

section
variable{ty:TypeId}
theorem FM(ht:E.P.underlying t=some (.slice e))(hx:aZ E.N G x (tV (.slice none 0 0))):cH E O G ⟨dst,.call ⟨.builtin .len,#[x],#[t]⟩,ty,pos,after,g⟩ (tD (rI .i64) (0:Int)):=
 .of_pure fun a w S _ _ hf=>by
  have h1:a.eval x= .slice none 0 0:=hx S a hf
  refine⟨.int .i64 0,?_,fe.2 rfl⟩
  simp [execOp,resolve,invoke,builtin,Builtin.len_,kH ht,h1,goInt]
theorem FO(ht:E.P.underlying t=some (.slice e))(hx:aZ E.N G x (tV (.slice none 0 0))):cH E O G ⟨dst,.call ⟨.builtin .cap,#[x],#[t]⟩,ty,pos,after,g⟩ (tD (rI .i64) (0:Int)):=
 .of_pure fun a w S _ _ hf=>by
  have h1:a.eval x= .slice none 0 0:=hx S a hf
  refine⟨.int .i64 0,?_,fe.2 rfl⟩
  simp [execOp,resolve,invoke,builtin,Builtin.cap_,kH ht,h1,goInt]
theorem Iz{hi:Operand}(ht:E.P.underlying t=some (.slice T))(ti:TI E.P T sz bytes agg z)(hx:aZ E.N G x (tV (.slice none 0 0)))(hhi:aZ E.N G hi (tD (rI k) (0:Int))):
  cH E O G ⟨dst,.slice t x none (some hi) none,ty,pos,after,g⟩ (tV (.slice none 0 0)):=
 .of_pure fun a w S _ _ hf=>by
  have h1:a.eval x= .slice none 0 0:=hx S a hf
  have h6:=fe.1 (hhi S a hf)
  refine⟨.slice none 0 0,?_,rfl⟩
  have hb:=mM (P:=E.P) (w:=w) (k:=k) (n:=(0:Int)) (y:=0) (code:= .sliceAcap) (by omega) (by omega)
  simp [execOp,Instr.sliceAt,h1,h6,Instr.slice,kH ht,Instr.sliceBounds,hb,mM (k:=k) (n:=(0:Int)) (y:=0) (by omega) (by omega),ti.sizeOf]
end

def vU{α:Type}(n:Int)(z:α):Option (List α):=if 0≤n∧n≤68719476736 then some (List.replicate n.toNat z)else none
theorem B3{n:Int}{z:α}(h:vU n z=some zs): ∃m:Nat,n=m∧m≤68719476736∧zs=List.replicate m z:=by
 unfold vU at h
 split at h
 ·rename_i hc;exact⟨n.toNat,by omega,by omega,by simpa using h.symm⟩
 ·cases h
theorem ym{α:Type}{r:Rp α}{x:α}{z:List Value}(hx: ∀S,r.rc S z x)(S:SH): ∀n:Nat,vt r S (List.replicate n z).flatten (List.replicate n x)
 |0=>rfl
 |n+1=>⟨z,_,by rw [List.replicate_succ,List.flatten_cons],hx S,ym hx S n⟩
theorem DV(z:List Value):(List.range z.length).map (fun i=>z[i%z.length]?.getD default)=z:=by
 apply Fb
 intro k
 rcases lu k z.length with h|h
 ·rw [B2,List.getElem?_range h]
  simp [Nat.mod_eq_of_lt h,h]
 ·rw [HF (by simpa using h),HF h]
theorem oT(z:List Value)(n:Nat):(Builtin.zeroCells z.toArray n).toList=(List.replicate n z).flatten:=by
 unfold Builtin.zeroCells
 simp
 induction n with
 |zero=>simp
 |succ n ih=>
  rw [List.replicate_succ,List.flatten_cons,←ih,Nat.succ_mul,Nat.add_comm,List.range_add,Dh,DV,List.map_map]
  congr 1
  apply HI
  intro i _
  simp
theorem BA(z:List Value)(n sz:Nat)(h:z.length=sz):(madeCells z.toArray (n*sz)).toList=(List.replicate n z).flatten:=by
 subst h
 have:=oT z n
 unfold Builtin.zeroCells at this
 unfold madeCells
 simpa using this
section
variable{ty:TypeId}
theorem flat_len(h:z.length=sz)(n:Nat):(List.replicate n z).flatten.length=n*sz:=by
 simp [h]
theorem PN{x:α}{n:Int}{y y' :Operand}(ti:TI E.P T sz bytes agg z)(hsz:r.sz=sz)(hz:Nat.beq z.length sz=true)(h128:Nat.ble bytes 2048=true)(ht:E.P.underlying t=some (.slice T))(hx: ∀S,r.rc S z x)(hy:aZ E.N G y (tD (rI k) n))(hy' :aZ E.N G y' (tD (rI k') n))(h:vU n x=some zs):
  EffOK E O G ⟨some d,.makeSlice t y y',ty,pos,after,g⟩ (fun i=>ga r T (i.h 0).1 (i.h 0).2 zs::O) (fun i=>tV (aV (i.h 0).1 (i.h 0).2 zs.length)):=fun a w S hs ho hf hb=>by
 subst hsz
 obtain⟨i,zv,hi,h1,h2,h3,h4⟩:=ti.get
 obtain⟨m,rfl,hm,rfl⟩:=B3 h
 have hyv:=fe.1 (hy S a hf)
 have hyv' :=fe.1 (hy' S a hf)
 have hz2:z.length=r.sz:=pj hz
 have h128' :=pT h128
 have hbytes:(i.bytes:Int)*(m:Int)≤281474976710656:=by
  have:i.bytes*m≤2048*68719476736:=Nat.mul_le_mul (by omega) hm
  have h5:((i.bytes*m:Nat):Int)≤281474976710656:=by omega
  rwa [Int.natCast_mul]at h5
 have hr:=run_make (P:=E.P) w t T i zv ht hi h3 k k' (m:Int) (m:Int) (by omega) (Int.le_refl _) hbytes (by omega)
 rw [yG,h1,h4]at hr
 obtain⟨he,hs',hno⟩:=f9 (w:=w) (.cells (madeCells z.toArray (m*r.sz)) T (0,0)) hs
 have hrun:(execOp a.eval ⟨some d,.makeSlice t y y',ty,pos,after,g⟩).run E.P w= .ok (.value (.slice (some ⟨w.heap.size,0,none⟩) m m)) (w.alloc (.cells (madeCells z.toArray (m*r.sz)) T (0,0))):=by
  simp [execOp,hyv,hyv',hr]
 refine⟨fun c h=>(by cases h),?_⟩
 rw [hrun]
 have hfl:=flat_len hz2 m
 refine⟨_,S,oi (some w.heap.size) m,rfl,he.more fun _ hb=>hb.elim,hs',pO ho he (e:=ga r T (some w.heap.size) m (List.replicate m x)) ⟨(List.replicate m z).flatten,⟨_,Cx w _,by simp,by simp only [maxLen];omega,by rw [size_madeCells],?_⟩,ym hx S m,fun b hb=>by rw [←po hb];exact hno⟩ (fun b hb=>yR (po hb)) hb,?_⟩
 ·rw [BA z m r.sz hz2,HK]
  exact rZ (by omega)
 ·show _=aV _ _ _
  rw [HK];rfl
theorem I9{x:α}{n:Int}{s y:Operand}{kn:IntKind}(ti:TI E.P T sz bytes agg z)(hsz:r.sz=sz)(hz:Nat.beq z.length sz=true)(h0:Nat.blt 0 sz=true)(h128:Nat.ble bytes 2048=true)(ht:E.P.underlying t=some (.slice T))(ht' :E.P.underlying t' =some (.int kn))(hx: ∀S,r.rc S z x)(hs' :aZ E.N G s (tV (.slice none 0 0)))(hy:aZ E.N G y (tD (rI k) n))(hn:0<n)(h:vU n x=some zs):
  EffOK E O G ⟨some d,.call ⟨.builtin .append,#[s,y],#[t,t']⟩,ty,pos,after,g⟩ (fun i=>ga r T (i.h 0).1 (i.h 0).2 zs::O) (fun i=>tV (aV (i.h 0).1 (i.h 0).2 zs.length)):=fun a w S hs ho hf hb=>by
 subst hsz
 obtain⟨i,zv,hi,h1,h2,h3,h4⟩:=ti.get
 obtain⟨m,rfl,hm,rfl⟩:=B3 h
 have hsv:a.eval s= .slice none 0 0:=hs' S a hf
 have hyv:=fe.1 (hy S a hf)
 have hz2:z.length=r.sz:=pj hz
 have h128' :=pT h128
 have h0' :0<r.sz:=by simpa [u9] using h0
 have hbytes:m*i.bytes≤281474976710656:=by
  have:m*i.bytes≤68719476736*2048:=Nat.mul_le_mul hm (by omega)
  omega
 have hr:=Lib.run_append_nil_zeros (P:=E.P) w t t' ty T i zv k kn ht ht' hi h3 m (by omega) (by omega) (by omega) hbytes
 have hge:=grownCap_ge w m 0 T
 have hle:=grownCap_le_maxLen w m 0 T (by simp only [maxLen];omega)
 generalize grownCap w m 0 T=cp at hr hge hle
 obtain⟨C,hC⟩: ∃C,Builtin.zeroCells zv.cells m++Builtin.zeroCells zv.cells (cp-m)=C:=⟨_,rfl⟩
 rw [hC]at hr
 obtain⟨he0,hs0⟩:=xZ (w:=w) hs
 obtain⟨he,hs2,hno⟩:=f9 (w:=w.drew) (.cells C T (0,0)) hs0
 have hx2:gW qq w S (w.drew.alloc (.cells C T (0,0))) S:=he0.trans he
 have hrun:(execOp a.eval ⟨some d,.call ⟨.builtin .append,#[s,y],#[t,t']⟩,ty,pos,after,g⟩).run E.P w= .ok (.value (.slice (some ⟨w.heap.size,0,none⟩) m cp)) (w.drew.alloc (.cells C T (0,0))):=by
  simp [execOp,resolve,invoke,builtin,hsv,hyv,hr]
 refine⟨fun c h=>(by cases h),?_⟩
 rw [hrun]
 have hfl:=flat_len hz2 m
 have hC1:C.toList=(List.replicate m z).flatten++(List.replicate (cp-m) z).flatten:=by
  rw [←hC,Array.toList_append,h4,oT,oT]
 refine⟨_,S,oi (some w.heap.size) cp,rfl,hx2.more fun _ hb=>hb.elim,hs2,pO ho hx2 (e:=ga r T (some w.heap.size) cp (List.replicate m x)) ⟨(List.replicate m z).flatten,⟨C,Cx w.drew _,by simpa using hge,hle,?_,?_⟩,ym hx S m,fun b hb=>by rw [←po hb];exact hno⟩ (fun b hb=>yR (po hb)) hb,?_⟩
 ·have:C.toList.length=cp*r.sz:=by
   rw [hC1,lw,hfl,flat_len hz2,←w7];congr 1;omega
  simpa using this
 ·rw [hC1,HK,←hfl,List.take_left]
 ·show _=aV _ _ _
  rw [HK];rfl

theorem NP{x:α}{y:Operand}(ti:TI E.P T sz bytes agg z)(hsz:r.sz=sz)(hz:Nat.beq z.length sz=true)(ht:E.P.underlying t=some (.slice T))(hx: ∀S,r.rc S z x)(hone:z.all (·.oneCell')=true)(hs:fy xs lo (xs.length:Int)=some ys)(hy:aZ E.N G y (tV (ot sz l cap lo.toNat ys.length)))(hzs:xs.take lo.toNat++List.replicate ys.length x=zs)(k:RG E ops Q rest (ga r T l cap zs::O) G):
  RG E ops Q (⟨none,.call ⟨.builtin .clear,#[y],#[t]⟩,ty,pos,after,none⟩::rest) (ga r T l cap xs::O) G:= .of rfl fun a w S st=>by
 subst hsz
 subst hzs
 obtain⟨i,zv,hi,h1,h2,h3,h4⟩:=ti.get
 have hyv:a.eval y=ot r.sz l cap lo.toNat ys.length:=hy S a st.facts
 have hz2:z.length=r.sz:=pj hz
 obtain⟨lo',m,rfl,hm,h5,h6,rfl⟩:=iC hs
 have hm' :m=xs.length:=by omega
 subst hm'
 rw [BZ]at hyv k
 rw [yG]at hyv k
 by_cases hnil:xs.drop lo' =[]
 ·have hlo:xs.length≤lo' :=zY.1 hnil
  rw [hnil]at hyv k
  have e1:xs.take lo' ++List.replicate ([]:List α).length x=xs:=by simp [rZ hlo]
  rw [e1]at k
  have hrun:(execOp a.eval ⟨none,.call ⟨.builtin .clear,#[y],#[t]⟩,ty,pos,after,none⟩).run E.P w= .ok (.value (.tuple #[])) w:=by
   cases l<;>simp [execOp,resolve,invoke,builtin,Builtin.clear_,kH ht,hyv,ot]
  refine⟨fun c h=>(by cases h),?_⟩
  rw [hrun]
  exact k _ _ S st
 ·obtain⟨⟨cells,hraw,hrc,hno⟩,hbase⟩:=st.own.1
  have hlt:lo' <xs.length:=by
   rcases lu lo' xs.length with h|h
   ·exact h
   ·exact absurd (Bf h) hnil
  cases l with
  |none=>have:=hraw.1;omega
  |some b=>
   obtain⟨cur,g1,g2,g3,g4,g5⟩:=hraw
   have hno' :S b=none:=hno b rfl
   have hne: ¬(cap=lo'):=by omega
   have hld:(xs.drop lo').length=xs.length-lo' :=by simp
   have hfl:=flat_len hz2 (xs.length-lo')
   have hones: ∀u∈(List.replicate (xs.length-lo') z).flatten,u.oneCell' =true:=by
    intro u hu
    obtain⟨q,hq,hu⟩:=List.mem_flatten.1 hu
    rw [(List.mem_replicate.1 hq).2]at hu
    exact pi.1 hone u hu
   have hmul:xs.length*r.sz≤cur.size:=by rw [g4];exact CA _ g2
   have hfit:lo' *r.sz+(xs.length-lo')*r.sz=xs.length*r.sz:=by rw [←w7];congr 1;omega
   have hst:=run_storeCells_at E.P b (lo' *r.sz) T (List.replicate (xs.length-lo') z).flatten 0 cur w g1 (by omega) hones
   simp only [yD]at hst
   have hrun:(execOp a.eval ⟨none,.call ⟨.builtin .clear,#[y],#[t]⟩,ty,pos,after,none⟩).run E.P w= .ok (.value (.tuple #[])) (w.setRow b (cur.toList.take (lo' *r.sz)++(List.replicate (xs.length-lo') z).flatten++cur.toList.drop (lo' *r.sz+(List.replicate (xs.length-lo') z).flatten.length)).toArray):=by
    have e1: ∃q,xs.length-lo' =q+1:=⟨xs.length-lo' -1,by omega⟩
    obtain⟨q,hq⟩:=e1
    have e2:a.eval y= .slice (some ⟨b,lo' *r.sz,none⟩) (q+1) (cap-lo'):=by rw [hyv,hld,hq];simp [ot,hne]
    rw [hq]at hst ⊢
    simp [execOp,resolve,invoke,builtin,Builtin.clear_,kH ht,e2,zeroValue,typeInfo,hi,h3,h4,oT,hst]
   refine⟨fun c h=>(by cases h),?_⟩
   rw [hrun]
   have hset:=setRow_heap w b cur (cur.toList.take (lo' *r.sz)++(List.replicate (xs.length-lo') z).flatten++cur.toList.drop (lo' *r.sz+(List.replicate (xs.length-lo') z).flatten.length)).toArray T _ g1
   have hl2:(xs.take lo' ++List.replicate (xs.drop lo').length x).length=xs.length:=by simp;omega
   have hsp:vt r S (cells.take (lo' *r.sz)) (xs.take lo'):=by
    have e:xs=xs.take lo' ++xs.drop lo' :=(vb _ _).symm
    rw [e]at hrc
    have:=(rj hrc).1
    rwa [show(xs.take lo').length=lo' from by simp;omega]at this
   have hcl:((cur.toList.take (lo' *r.sz)++(List.replicate (xs.length-lo') z).flatten++cur.toList.drop (lo' *r.sz+(List.replicate (xs.length-lo') z).flatten.length)).toArray).toList.take ((xs.take lo' ++List.replicate (xs.drop lo').length x).length*r.sz)=cells.take (lo' *r.sz)++(List.replicate (xs.length-lo') z).flatten:=by
    rw [hl2,←g5,Ba,Bc (CA _ (by omega))]
    have hlen1:(cur.toList.take (lo' *r.sz)++(List.replicate (xs.length-lo') z).flatten).length=xs.length*r.sz:=by
     rw [lw,hfl,z8,Dj,Bc (by omega)];exact hfit
    rw [←hlen1,List.take_left]
   obtain⟨q1,q2,q3⟩:=rk (O:=O) st.sat (ga r T (some b) cap xs) (ga r T (some b) cap (xs.take lo' ++List.replicate (xs.drop lo').length x)) st.own (fun k=>⟨fun h=>(po h).symm,fun h=>by rw [h];rfl⟩) (fun k=>⟨fun h=>(po h).symm,fun h=>by rw [h];rfl⟩)
    (w' :=w.setRow b (cur.toList.take (lo' *r.sz)++(List.replicate (xs.length-lo') z).flatten++cur.toList.drop (lo' *r.sz+(List.replicate (xs.length-lo') z).flatten.length)).toArray) ⟨rfl,rfl,rfl,by simp [World.setRow],eW _⟩ (fun k hk=>setRow_other w b k _ hk)
    ⟨cells.take (lo' *r.sz)++(List.replicate (xs.length-lo') z).flatten,⟨_,hset,by rw [hl2];exact g2,g3,by simp only [Fa,lw,z8,B0,Dj];omega,hcl⟩,by rw [hld];exact wj hsp (ym hx S _),fun k hk=>by rw [←po hk];exact hno'⟩ hno'
   ·exact k _ _ S ⟨st.ext.step q1 (fun c hc=>hbase c (by rw [hc];rfl)),q2,q3,st.facts⟩
end

def vh{α:Type}(r:Rp α)(n:Nat):Rp (List α) where
 sz:=n*r.sz
 agg:=true
 rc:=fun S cs xs=>xs.length=n∧vt r S cs xs
 mono:=fun h ⟨h1,h2⟩=>⟨h1,ss h h2⟩
 len:=fun⟨h1,h2⟩=>by rw [n8 h2,h1]
 one:=fun⟨_,h2⟩=>CZ h2
 sc:=fun h=>by cases h
section
section
variable{ty:TypeId}
theorem ET{i:Int}(ht:E.P.underlying t=some (.array n e))(ti:TI E.P e sz bytes agg z)(hm:bx (vh r n) T b xs∈O)(hx:aZ E.N G x (tV (aM b 0)))(hi:aZ E.N G ix (tD (rI k) i))(hy:dw xs i=some y):
  cH E O G ⟨dst,.indexAddr t x ix,ty,pos,after,g⟩ (tV (aM b (i.toNat*sz))):=
 .of_pure fun a w S _ ho hf=>by
  have h1:a.eval x=aM b 0:=hx S a hf
  have h5:a.eval ix= .int k i:=fe.1 (hi S a hf)
  obtain⟨⟨_,c,_,h4,_⟩,_⟩:=ho.mem _ hm
  obtain⟨h0,hy'⟩:=lW hy
  have hlt:i.toNat<xs.length:=(qW.1 hy').1
  have hc:0≤i∧i<(n:Int):=⟨h0,by omega⟩
  refine⟨_,?_,rfl⟩
  simp [execOp,h1,h5,aM,Instr.indexAt,asIntOf,kH ht,Instr.sureAddr,hc,ti.sizeOf,jS]
end
end
theorem yZ{α:Type}{r:Rp α}{c:Value}{x:α}(h: ∀S,r.rc S [c] x)(S:SH): ∀n,vt r S (List.replicate n c) (List.replicate n x)
 |0=>rfl
 |n+1=>⟨[c],_,rfl,h S,yZ h S n⟩
theorem Qf{c:Value}{x:α}(n:Nat)(h: ∀S,r.rc S [c] x): ∀S,(vh r n).rc S (List.replicate n c) (List.replicate n x):=fun S=>⟨HK,yZ h S n⟩
def Ub(n:Nat):Option Unit:=if n≤68719476736 then some ()else none
def XY(n:Int):Option Unit:=if 0<n then some ()else none
theorem Pf{n:Int}{u:Unit}(h:XY n=some u):0<n:=by
 unfold XY at h
 split at h
 ·assumption
 ·cases h
theorem Qq{e:Exit}(mm:Bool)(r:Rp α)(T:TypeId)(h:AT E Q e (m6 mm r T none 0 []::O) G):AT E Q e O G:=fun a w S st=>h a w S (st.fresh mm r T)
theorem Gd{x:α}(h:fy xs lo (xs.length:Int)=some ys)(hz:xs.take lo.toNat++List.replicate ys.length x=zs):zs.length=xs.length:=by
 obtain⟨l,m,rfl,hm,h1,h2,rfl⟩:=iC h
 have hm' :m=xs.length:=by omega
 subst hm'
 rw [←hz]
 simp
 omega

def tC(n:FuncId)(cts:List Ty):Ty where
 p:=fun S v=> ∃cap:List Value,v= .func (.func n) #[] cap.toArray∧wZ S cts cap
 mono:=fun h ⟨cap,e,k⟩=>⟨cap,e,wZ.mono h k⟩
section
section
variable{ty:TypeId}
theorem OM{fid:FuncId}{caps:List Operand}(hcap:jE E.N G caps cts):cH E O G ⟨dst,.makeFunc (.func fid) #[] caps.toArray,ty,pos,after,g⟩ (tC fid cts):=
 .of_pure fun a w S _ _ hf=>⟨.func (.func fid) #[] (caps.map a.eval).toArray,by simp [execOp,Instr.makeFunc],_,rfl,hcap.tys hf⟩
end
theorem Nv{n:FuncId}{ty:TypeId}{fo:Operand}{xs:List Operand}(O1 Or:List OE){t:OI→Ty}{O2:OI→List OE}(hO:O=O1++Or)(hc:av E.P n=true)(hs:d2 E.P n (ts++cts) O1 t O2)(hf:aZ E.N G fo (tC n cts))(hx:jE E.N G xs ts)(hpost: ∀i,O2 i++Or=post i):
  EffOK E O G ⟨some d,.call ⟨.value fo,xs.toArray,ats⟩,ty,pos,after,g⟩ post t:=fun a w S hsat ho hF hb=>by
 subst hO
 obtain rfl:(fun i=>O2 i++Or)=post:=funext hpost
 obtain⟨cap,e,hcap⟩:=hf S a hF
 have hr:(execOp a.eval ⟨some d,.call ⟨.value fo,xs.toArray,ats⟩,ty,pos,after,g⟩).run E.P w= .ok (.enter n ((xs.map a.eval).toArray++cap.toArray)) w:=by
  simp [execOp,resolve,e,Deferred.ofValue,invoke,gL hc]
 refine⟨fun c h=>(by cases h),?_⟩
 rw [hr]
 have e2:(xs.map a.eval).toArray++cap.toArray=((xs.map a.eval)++cap).toArray:=by simp
 rw [e2]
 exact(hs w S _ hsat ((hx.tys hF).append hcap) (nV ho).1.weak).mono fun en w' ⟨i,v,S',he,hv,h1,h2,h3,h4⟩=>⟨_,he,v,S',i,rfl,h1.more fun b ⟨f,hf,hb⟩=>⟨f,Dk _ hf,hb⟩,h2,du.turn ho hb h1 h3 h4,hv⟩
end

def EZ{α:Type}(xs:List α)(lo:Int)(n:Nat)(i:Int):Option α:=if 0≤i∧i<(n:Int)then dw xs (lo+i)else none
theorem yy{i:Int}(h:EZ xs lo n i=some y):0≤i∧i<(n:Int)∧dw xs (lo+i)=some y:=by
 unfold EZ at h
 split at h
 ·rename_i hc;exact⟨hc.1,hc.2,h⟩
 ·cases h
theorem Bn(h:fy xs lo hi=some ys):0≤lo:=by
 obtain⟨l,m,rfl,_,_,_,_⟩:=iC h
 omega
section
theorem qR(hm:m6 mm r T l cap xs∈O)(hs:fy xs lo hi=some ys)(h:(l=none→ys.length=0)∧ys.length≤maxLen→RG E ops Q rest O G):RG E ops Q rest O G:=fun a w S st=>by
 refine h ?_ a w S st
 obtain⟨cells,h1,_⟩:=(st.own.mem _ hm).1
 obtain⟨l',m,_,_,_,h8,rfl⟩:=iC hs
 have hlen:((xs.take m).drop l').length≤xs.length:=by simp;omega
 cases l with
 |none=>have:=h1.1;exact⟨fun _=>by omega,by omega⟩
 |some b=>obtain⟨cur,_,g2,g3,_⟩:=h1;exact⟨fun h=>(by cases h),by omega⟩
section
variable{ty:TypeId}
theorem Lp{lo:Nat}(ht:E.P.underlying t=some (.slice e))(hv:l=none→n=0)(hx:aZ E.N G x (tV (ot sz l cap lo n))):
  cH E O G ⟨dst,.call ⟨.builtin .len,#[x],#[t]⟩,ty,pos,after,g⟩ (tD (rI .i64) (n:Int)):=
 .of_pure fun a w S _ ho hf=>by
  have h1:a.eval x=ot sz l cap lo n:=hx S a hf
  obtain⟨ad,c,h3⟩: ∃ad c,ot sz l cap lo n= .slice ad n c:=by
   cases l with
   |none=>rw [hv rfl];exact⟨none,0,rfl⟩
   |some b=>exact⟨_,_,rfl⟩
  refine⟨.int .i64 n,?_,fe.2 rfl⟩
  simp [execOp,resolve,invoke,builtin,Builtin.len_,kH ht,h1,h3,goInt]
theorem vl{i:Int}(ht:E.P.underlying t=some (.slice e))(ti:TI E.P e sz bytes agg z)(hsz:r.sz=sz)(hm:m6 mm r U l cap xs∈O)(hl0:0≤lo)(hx:aZ E.N G x (tV (ot sz l cap lo.toNat n)))(hi' :aZ E.N G ix (tD (rI k) i))(hy:EZ xs lo n i=some y):
  cH E O G ⟨dst,.indexAddr t x ix,ty,pos,after,g⟩ (tV (ol l ((lo+i).toNat*sz+0))):=
 .of_pure fun a w S _ ho hf=>by
  subst hsz
  have h1:a.eval x=ot r.sz l cap lo.toNat n:=hx S a hf
  have h3:a.eval ix= .int k i:=fe.1 (hi' S a hf)
  obtain⟨hi0,hin,hxi⟩:=yy hy
  obtain⟨_,hx'⟩:=lW hxi
  obtain⟨b,cur,rfl,_,hle,_⟩:=uc (ho.mem _ hm).1 hx'
  have hlt2:(lo+i).toNat<xs.length:=(qW.1 hx').1
  have hne: ¬(cap=lo.toNat):=by omega
  refine⟨_,?_,rfl⟩
  have hc:0≤i∧i<(n:Int):=⟨hi0,hin⟩
  have e1:(lo+i).toNat=lo.toNat+i.toNat:=by omega
  simp [execOp,h1,h3,ot,hne,Instr.indexAt,asIntOf,kH ht,hc,ti.sizeOf,jS,ol,aM,e1,w7]
end
end

section
variable{ty:TypeId}{l:List Oper}
end
end Go.Proofs.YtnmjbolollcokaaGreatDoor

