/- dm of this claim: W11, W12, W13, W14, W16, W17, W18, W19, W20, W22, W23, W24, W25, W26, W28, W30, W31, W32. -/
import Derived.Test.YthbdkceckjihgaaGreatDoorBcV1
import Derived.RangeFuncRecord
import Derived.RangeFuncLeaves
import Derived.Laws.StructEq
import Derived.Lib.ConvBytes
import Derived.Lib.AppendZeros
import Derived.Laws.MakeOwn
import Derived.MapKept
import Derived.Scope
import Derived.ChangeKeysEq
set_option linter.all false
namespace Go.Proofs.YthbdkceckjihgaaGreatDoor
open Go

structure FM(P:Program){α:Type} [DecidableEq α](t:TypeId)(r:Rp α):Prop where
 guard:P.eqGuardType P.depth t=false
 run: ∀(S:SH) (cs ds:List Value) (x y:α) (ah:Nat) (w:World),r.rc S cs x->r.rc S ds y->(Op.equalIn (ah+20) t (r.val cs) (r.val ds)).run P w= .ok (decide (x=y)) w
variable{E:En}{G:mM}{O:List OE}{P:Program}{S:SH}{a:Act}{after:Array Edge}{agg:Bool}{dst:Option Tmp}{g:Option (Nat×Bool)}{α:Type}{m n:Nat}{pos:String}{r:Rp α}{γ:Type}{t:TypeId}{u:Rp γ}{w:World}{x:Operand}{xt:TypeId}{y:α}{yt:TypeId}
section
variable{ty:TypeId}
def ES{P:Program}{t:TypeId}(h:P.eqGuardType P.depth t=false){op:BinOp}{x y:Operand}{u v:Array Value}{w:World}:(eqGuard op t x y (.agg u) (.agg v)).run P w= .ok () w:=by
 unfold eqGuard
 cases op<;>first|rfl|simp [h]
def uS(h:r.agg=true)(cs:List Value):r.val cs= .agg cs.toArray:=by unfold Rp.val;rw [cx h]
def yc [DecidableEq α]{y:Operand}{m n:α}(he:FM E.P xt r)(D:bk E.N G x (Z r m))(hy:bk E.N G y (Z r n))(ha:r.agg=true:=by rfl):cH E O G ⟨dst,.binOp .eql xt x y yt,ty,pos,after,g⟩ (Z rB (decide (m=n))):=
 .of_pure fun a w S _ _ hf=>by
  obtain⟨cs,H,J⟩:=D S a hf
  obtain⟨ds,h3,h4⟩:=hy S a hf
  refine⟨.bool (decide (m=n)),?_,kP.2 rfl⟩
  have hr:=he.run S cs ds m n 9980 w J h4
  have V:= @ES E.P xt he.guard .eql x y cs.toArray ds.toArray w
  rw [uS ha,uS ha]at hr
  simp only [execOp,H,h3,uS ha,sA,V,tJ,binOp,Op.equal,Op.maxDepth]
  rw [show(10000:Nat)=9980+20 from rfl,hr]
  simp
def qS [DecidableEq α]{y:Operand}{m n:α}(he:FM E.P xt r)(D:bk E.N G x (Z r m))(hy:bk E.N G y (Z r n))(ha:r.agg=true:=by rfl):cH E O G ⟨dst,.binOp .neq xt x y yt,ty,pos,after,g⟩ (Z rB (!decide (m=n))):=
 .of_pure fun a w S _ _ hf=>by
  obtain⟨cs,H,J⟩:=D S a hf
  obtain⟨ds,h3,h4⟩:=hy S a hf
  refine⟨.bool (!decide (m=n)),?_,kP.2 rfl⟩
  have hr:=he.run S cs ds m n 9980 w J h4
  have V:= @ES E.P xt he.guard .neq x y cs.toArray ds.toArray w
  rw [uS ha,uS ha]at hr
  simp only [execOp,H,h3,uS ha,sA,V,tJ,binOp,Op.equal,Op.maxDepth]
  rw [show(10000:Nat)=9980+20 from rfl,hr]
  simp
end

variable{B:Nat->Prop}{S' :SH}{b base:Nat}{e:Exit}{f:FuncId}{k:IntKind}{w' :World}
def u7(h:dA base B w S O)(k:lq wC w S w' S'){e:OE}(he:e.p w' S')(hn: ∀b,e.fp b->w.heap.size<=b)(A:base<=w.heap.size:=by first|assumption|exact St.base_le (by assumption)):dA base B w' S' (e::O):=
 ⟨⟨he,fun b hb' => .inl (oj A (hn b hb'))⟩,fun f hf b hb' hfb=>by
  have:=f.here (dA.mem h f hf).1 b hfb
  have:=hn b hb'
  omega,h.ext0 k⟩
def jB(P:Program)(f:FuncId)(ts:List Ty)(mm:Bool){α:Type}(r:Rp α)(T:TypeId)(xs:List α):Prop:=
 ∀w S vs,mU w S->AZ S ts vs->Calls P f vs.toArray w fun e w' => ∃l cap S',e= .returned (Y l cap xs.length)/\lq wC w S w' S' /\mU w' S' /\(mh mm r T l cap xs).holds w.heap.size wC w' S'
variable{T:TypeId}{cap:Nat}{l:Option Nat}{mm:Bool}{xs:List α}
def Nv(h:(mh mm r T l cap xs).holds w.heap.size wC w' S')(he:lq wC w S w' S')(hs:mU w' S'):
  ∃S'',lq wC w S w' S'' /\mU w' S'' /\(Z (eM r) xs).p S'' (Y l cap xs.length):=by
 have st:St ⟨default,⟨0,[]⟩,wC,w,S,none⟩ [mh mm r T l cap xs] [] ⟨#[],[]⟩ w' S' :=⟨he,hs,⟨h,fun _ hf=>(by cases hf),trivial⟩,⟨rfl,rfl,fun _ _ h=>(by simp [look]at h)⟩⟩
 obtain⟨S'',H,J⟩:=st.settle
 exact⟨S'',H.ext,H.sat,J⟩
variable{ts:List Ty}
def jB.spec(h:jB P f ts mm r T xs):cN P f ts (Z (eM r) xs):=fun w S vs hs hv=>
 (h w S vs hs hv).mono fun e w' ⟨l,cap,S',he,H,J,h3⟩=>by
  obtain⟨S'',h4,h5,h6⟩:=Nv h3 H J
  exact⟨_,S'',he,h4,h5,h6⟩
def aaO(E:En)(mm:Bool){α:Type}(r:Rp α)(T:TypeId)(xs:List α):Ending->World->Prop:=fun e w' => ∃l cap S',e= .returned (Y l cap xs.length)/\lq E.B E.w0 E.S0 w' S' /\mU w' S' /\(mh mm r T l cap xs).holds E.w0.heap.size E.B w' S'
variable{N:Nat}{S0:SH}{c:Code}{fn:Func}{w0:World}
def jB.of(hf:P.funcs[f]? =some fn)(A:fn.body=some c)(hN:fn.ntmps=N)(hn:Nat.ble ts.length N=true)(h: ∀w0 S0,CG ⟨P,⟨N,[]⟩,wC,w0,S0,none⟩ (bodyPost P fn (aaO ⟨P,⟨N,[]⟩,wC,w0,S0,none⟩ mm r T xs)) c [] (Bk 0 ts)):jB P f ts mm r T xs:=by
 subst hN
 intro w S vs hs hv
 exact yB.1 (callsIn_of_wp (F:=fw none) (n:=0) hf A trivial (h w S _ w S ⟨lq.refl _ _ _,hs,trivial,B0 hv _ (uq hn)⟩))
variable{aC:Exit->Act->World->Prop}{ats:Array TypeId}{bytes ah:Nat}{ops:Array Oper}{rest:List Oper}{sz:Nat}{ys:List α}{z:List Value}
section
def na{k:Nat}(hr:fn.results= #[.tmp k])(hk:look G k=some (tV (Y l cap n)))(hn:n=xs.length:=by rfl):
  AT ⟨P,⟨N,[]⟩,B,w0,S0,none⟩ (bodyPost P fn (aaO ⟨P,⟨N,[]⟩,B,w0,S0,none⟩ mm r T xs)) .ret (mh mm r T l cap xs::O) G:=fun a w S st=>by
 subst hn
 have hv:a.tmps.getD k undef=Y l cap xs.length:=st.facts.at_ k _ hk
 exact⟨st.facts.defers,_,uz P fn k hr _ _,l,cap,S,by rw [hv],st.ext,st.sat,st.own.1⟩
section
variable{ty:TypeId}
def Sa{xs:List Operand}{u:Nat->Option Nat->Ty}(hc:ak E.P f=true)(hs:jB E.P f ts mm r T ys)(D:kD E.N G xs ts)(hd:Nat.blt ah E.N.n=true)(hu: ∀l cap w0 S,(mh mm r T l cap ys).p w0 S->(u cap l).p S (Y l cap ys.length))(k: ∀l cap,RG E ops aC rest (mh mm r T l cap ys::O) ((ah,u cap l)::G)):
  RG E ops aC (⟨some ah,.call ⟨.value (.func f),xs.toArray,ats⟩,ty,pos,after,none⟩::rest) O G:= .of rfl fun a w S st=>by
 have hr:(execOp a.eval ⟨some ah,.call ⟨.value (.func f),xs.toArray,ats⟩,ty,pos,after,none⟩).run E.P w= .ok (.enter f (xs.map a.eval).toArray) w:=by
  simp [execOp,resolve,Act.eval,Deferred.ofValue,invoke,kf hc]
 refine⟨fun c h=>(by cases h),?_⟩
 rw [hr]
 refine(hs w S _ st.sat (D.tys st.facts)).mono fun e w' ⟨l,cap,S',he,H,J,h3⟩=>⟨_,he,?_⟩;refine k l cap _ _ S' ⟨st.ext.step0 H,J,u7 st.own H h3.1 (fun b A=>(h3.2 b A).resolve_right id) st.base_le,(st.facts.mono H.keep).put hd (hu l cap w' S' h3.1)⟩
def Us{xs:List Operand}(hc:ak E.P f=true)(hs:jB E.P f ts false r T ys)(D:kD E.N G xs ts)(hd:Nat.blt ah E.N.n=true)(k: ∀l cap,RG E ops aC rest (f6 r T l cap ys::O) ((ah,tV (Y l cap ys.length))::G)):
  RG E ops aC (⟨some ah,.call ⟨.value (.func f),xs.toArray,ats⟩,ty,pos,after,none⟩::rest) O G:=Sa (u:=fun cap l=>tV (Y l cap ys.length)) hc hs D hd (fun _ _ _ _ _=>rfl) k
def iY{xs:List Operand}{parts:List (Nat×Operand)}(M:E.P.underlying t=some (.slice T))(ti:TI E.P T sz bytes agg z)(hsz:r.sz=sz)(h0:Nat.blt 0 sz=true)(hp:parts=Bm 0 xs)(hn:n=ys.length)(A:Nat.ble (n*sz) 16777216=true)(D:kD E.N G xs (ys.map (Z r)))(hd:Nat.blt ah E.N.n=true)(k: ∀l cap,RG E ops aC rest (f6 r T l cap ys::O) ((ah,tV (Y l cap ys.length))::G)):
  RG E ops aC (⟨some ah,.buildSlice t n parts.toArray,ty,pos,after,none⟩::rest) O G:= .of rfl fun a w S st=>by
 obtain⟨cs,hc,hr⟩:=zB M ti hsz hn A (D.tys st.facts) w
 subst hsz
 subst hp
 have hb' :=uq A
 have h0' :0<r.sz:=by simpa [tM] using h0
 have hnle:n<=n*r.sz:=Nat.le_mul_of_pos_right n h0'
 have hcl:=mC hc
 obtain⟨he,hs',hno⟩:=lF (w:=w) (.cells cs.toArray T (0,0)) st.sat
 have hrun:(execOp a.eval ⟨some ah,.buildSlice t n (Bm 0 xs).toArray,ty,pos,after,none⟩).run E.P w= .ok (.value (.slice (some ⟨w.heap.size,0,none⟩) n n)) (w.alloc (.cells cs.toArray T (0,0))):=by
  simp only [execOp,sA,hr,tJ,ED]
 refine⟨fun c h=>(by cases h),?_⟩
 rw [hrun]
 refine k (some w.heap.size) n _ _ S ⟨st.ext.step0 he,hs',u7 st.own he ⟨cs,⟨cs.toArray,A1 w _,by omega,by simp only [maxLen];omega,by simp [hcl,hn],by simp [<-hcl]⟩,hc,fun b A=>by rw [<-rC A];exact hno⟩ (fun b A=>EA (rC A)) st.base_le,st.facts.put hd ?_⟩
 ·show _=Y _ _ _
  rw [<-hn];rfl
end
end

def an(b off:Nat):Value:= .pointer (some ⟨b,off,none⟩)
def bx{α:Type}(r:Rp α)(T:TypeId)(b:Nat)(x:α):OE where
 fp:=fun k=>k=b
 p:=fun w S=>S b=none/\ ∃c,w.heap[b]? =some (.cells c T (0,0))/\r.rc S c.toList x
 here:=by
  intro w S h k hk
  subst hk
  obtain⟨H,c,J,_⟩:=h
  exact(BA.1 J).1
 kept:=by
  intro C w w' S S' h k hC
  obtain⟨H,c,J,h3⟩:=h
  have hlt:=(BA.1 J).1
  exact⟨by rw [k.old b hlt (hC b rfl)];exact H,c,by rw [k.heap b hlt (hC b rfl)];exact J,r.mono k.keep h3⟩
def rV:Rp Value where
 sz:=1
 agg:=false
 rc:=fun _ cs v=>cs=[v]/\v.oneCell' =true
 mono:=fun _ h=>h
 len:=fun h=>by rw [h.1];rfl
 one:=fun h c hc=>by rw [h.1]at hc;simp at hc;subst hc;exact h.2
 sc:=fun _=>rfl
def CA{u:Value}{v:Value}:(Z rV u).p S v↔v=u/\u.oneCell' =true:=by
 constructor
 ·rintro⟨cs,rfl,H,J⟩;subst H;exact⟨rfl,J⟩
 ·rintro⟨rfl,h⟩;exact⟨[v],rfl,rfl,h⟩
def eP{α β:Type}(r:Rp α)(off:Nat)(q:Rp β)(set:α->β->α):Prop:= ∀S cs x ds y,r.rc S cs x->q.rc S ds y->r.rc S (cs.take off++ds++cs.drop (off+q.sz)) (set x y)
variable{U:TypeId}{β:Type}{get:α->β}{i:Nat}{o:Oper}{off:Nat}{q:Rp β}{set:α->β->α}
section
def St.settleB{k:Nat}{x:α}(h:St E (bx r T b x::O) G a w S)(hk:look G k=some (tV (an b 0))): ∃S',St E O ((k,bo r x)::G) a w S' :=by
 obtain⟨⟨hn,cur,h3,h4⟩,_⟩:=h.own.1
 obtain⟨h8,hle,_,_⟩:=BL h rfl h3 (xx _) hn
 have hv:a.tmps.getD k undef=an b 0:=h.facts.at_ k _ hk
 refine⟨_,h8.cons ⟨b,0,cur,T,(0,0),hv,by simp [SH.set],?_⟩⟩
 have hl:cur.size=r.sz:=by have:=r.len h4;simpa using this
 have:=r.mono hle h4
 rw [sF,rF (by simp [hl])];exact this
def aQ{x:α}(k:Nat)(hk:look G k=some (tV (an b 0)))(h:RG E ops aC rest O ((k,bo r x)::G)):RG E ops aC rest (bx r T b x::O) G:=
 fun a w _ st=>let⟨S',st'⟩:=st.settleB hk;h a w S' st'
def cq{x:α}(k:Nat)(hk:look G k=some (tV (an b 0)))(h:AT E aC e O ((k,bo r x)::G)):AT E aC e (bx r T b x::O) G:=
 fun a w _ st=>let⟨S',st'⟩:=st.settleB hk;h a w S' st'
section
variable{ty:TypeId}
def aX{x:α}(ti:TI E.P T sz bytes agg z)(D: ∀S,r.rc S z x)(hd:Nat.blt ah E.N.n=true)(k: ∀b,RG E ops aC rest (bx r T b x::O) ((ah,tV (an b 0))::G)):RG E ops aC (⟨some ah,.alloc T,ty,pos,after,none⟩::rest) O G:= .of rfl fun a w S st=>by
 obtain⟨zv,hzr,hzc⟩:=ti.zero w
 obtain⟨he,hs',hno⟩:=lF (w:=w) (.cells z.toArray T (0,0)) st.sat
 have hrun:(execOp a.eval ⟨some ah,.alloc T,ty,pos,after,none⟩).run E.P w= .ok (.value (an w.heap.size 0)) (w.alloc (.cells z.toArray T (0,0))):=by
  simp [execOp,Instr.alloc,hzr,newVar,newRow,hzc,an]
 refine⟨fun c h=>(by cases h),?_⟩
 rw [hrun]
 exact k w.heap.size _ _ S ⟨st.ext.step0 he,hs',u7 st.own he ⟨hno,z.toArray,A1 w _,by simpa using D S⟩ (fun b A=>EA A.symm) st.base_le,st.facts.put hd rfl⟩
def AL{v:α}(D:bk E.N G x (Z r v))(hd:Nat.blt ah E.N.n=true)(k: ∀b,RG E ops aC rest (bx r T b v::O) ((ah,tV (an b 0))::G)):RG E ops aC (⟨some ah,.box T x,ty,pos,after,none⟩::rest) O G:= .of rfl fun a w S st=>by
 obtain⟨cs,hv,hc⟩:=D S a st.facts
 obtain⟨he,hs',hno⟩:=lF (w:=w) (.cells cs.toArray T (0,0)) st.sat
 have hrun:(execOp a.eval ⟨some ah,.box T x,ty,pos,after,none⟩).run E.P w= .ok (.value (an w.heap.size 0)) (w.alloc (.cells cs.toArray T (0,0))):=by
  simp [execOp,Instr.box,newVar,newRow,hv,xq hc,an]
 refine⟨fun c h=>(by cases h),?_⟩
 rw [hrun]
 exact k w.heap.size _ _ S ⟨st.ext.step0 he,hs',u7 st.own he ⟨hno,cs.toArray,A1 w _,by simpa using hc⟩ (fun b A=>EA A.symm) st.base_le,st.facts.put hd rfl⟩
def nk(hs:mU w S)(f f' :OE)(h:dA base B w S (f::O))(hf: ∀k,f.fp k↔k=b)(hf' : ∀k,f'.fp k↔k=b)(V:w'.os=w.os/\w'.tape=w.tape/\w'.output=w.output/\w'.heap.size=w.heap.size/\w.drawn<=w'.drawn)(ho: ∀k,k≠b->w'.heap[k]? =w.heap[k]?)(hp:f'.p w' S)(hno:S b=none):lq (fun k=>k=b) w S w' S/\mU w' S/\dA base B w' S (f' ::O):=by
 have hext:lq (fun k=>k=b) w S w' S:=⟨V.1,V.2.1,V.2.2.1,V.2.2.2.2,by omega,fun k _ hk=>ho k hk,SH.le_refl _,fun _ _ _=>rfl⟩
 refine⟨hext,hs.same fun k o hk=>?_,⟨hp,fun k hk=>h.1.2 k ((hf k).2 ((hf' k).1 hk))⟩,fun g hgm k hk=>h.2.1 g hgm k ((hf k).2 ((hf' k).1 hk)),h.2.2.ext hext fun g hgm k hk hkb=>h.2.1 g hgm k ((hf k).2 hkb) hk⟩
 have hne:k≠b:=fun e=>by subst e;rw [hno]at hk;cases hk
 exact ho k hne
def jO{q:Rp α}(ti:TI P U sz bytes agg z)(hsz:q.sz=sz){ds:List Value}(hy:q.rc S ds y){cur:Array Value}(V:w.heap[b]? =some (.cells cur T (0,0)))(hfit:off+q.sz<=cur.size):
  ∃w',(storeVar U ⟨b,off,none⟩ (q.val ds)).run P w= .ok () w' /\w'.os=w.os/\w'.tape=w.tape/\w'.output=w.output/\(w'.heap.size=w.heap.size/\w.drawn<=w'.drawn)/\w'.heap[b]? =some (.cells (cur.toList.take off++ds++cur.toList.drop (off+q.sz)).toArray T (0,0))/\ ∀k,k≠b->w'.heap[k]? =w.heap[k]? :=by
 have hl:=q.len hy
 have hst:=run_storeCells_at P b off T ds 0 cur w V (by omega) (q.one hy)
 simp only [FT]at hst
 refine⟨w.setRow b (cur.toList.take off++ds++cur.toList.drop (off+ds.length)).toArray,?_,rfl,rfl,rfl,⟨?_,f7 _⟩,?_,fun k hk=>setRow_other w b k _ hk⟩
 ·generalize (cur.toList.take off++ds++cur.toList.drop (off+ds.length)).toArray=X at hst ⊢
  simp only [storeVar,sA,ti.sizeOf,tJ,xq hy,FW,hl,hsz]
  simp only [ne_eq,not_true_eq_false,jh]
  simpa using hst
 ·simp [World.setRow]
 ·rw [setRow_heap w b cur _ T _ V,<-hl]
def mt{x:α}{y:β}{p v:Operand}(ti:TI E.P U sz bytes agg z)(hsz:q.sz=sz)(hset:eP r off q set)(hoff:Nat.ble (off+q.sz) r.sz=true)(hp:bk E.N G p (tV (an b off)))(hv:bk E.N G v (Z q y))(k:RG E ops aC rest (bx r T b (set x y)::O) G):RG E ops aC (⟨none,.store U p v,ty,pos,after,none⟩::rest) (bx r T b x::O) G:= .of rfl fun a w S st=>by
 have H:a.eval p=an b off:=hp S a st.facts
 obtain⟨ds,J,h3⟩:=hv S a st.facts
 obtain⟨⟨hno,cur,h5,h6⟩,_⟩:=st.own.1
 have hl:=r.len h6
 have hoff' :=uq hoff
 obtain⟨w',hr,e1,e2,e3,e4,e5,e6⟩:=jO ti hsz h3 h5 (off:=off) (by simp at hl;omega)
 have hrun:(execOp a.eval ⟨none,.store U p v,ty,pos,after,none⟩).run E.P w= .ok .skip w' :=by
  simp [execOp,H,J,Instr.storeAt,an,Instr.sureAddr,hr]
 refine⟨fun c h=>(by cases h),?_⟩
 rw [hrun]
 obtain⟨g1,g2,g3⟩:=nk (O:=O) st.sat (bx r T b x) (bx r T b (set x y)) st.own (fun _=>vz) (fun _=>vz) ⟨e1,e2,e3,e4.1,e4.2⟩ e6 ⟨hno,_,e5,by simpa using hset S _ _ _ _ h6 h3⟩ hno
 exact k _ _ S ⟨st.ext.step g1 (fun c hc=>st.own.1.2 c hc),g2,g3,st.facts⟩
def aj:eP r 0 r (fun _ y=>y):=fun S cs x ds y H J=>by
 have hl:=r.len H
 simpa [<-hl] using J
end
section
variable{ty:TypeId}
def Id{o:Nat}{p:Operand}(hf:bO E.P T i=some (off,sz))(h0:Nat.beq sz 0=false)(hp:bk E.N G p (tV (an b o))):cH E O G ⟨dst,.fieldAddr T p i,ty,pos,after,g⟩ (tV (an b (o+off))):=
 .of_pure fun a w S _ _ hF=>by
  have H:a.eval p=an b o:=hp S a hF
  obtain⟨fs,f,e1,e2,e3,e4⟩:=DX hf
  have h0' :sz≠0:=fun e=>by subst e;simp at h0
  refine⟨an b (o+off),?_,rfl⟩
  simp [execOp,H,an,Instr.fieldAt,jZ e1,e2,Instr.sureAddr,fieldPlace,e4,h0',e3,jA]
def bA{x:α}{p:Operand}(ti:TI E.P U sz bytes agg z)(hsz:q.sz=sz)(hag:q.agg=agg)(hget:jj r off q get)(hm:bx r T b x∈O)(hp:bk E.N G p (tV (an b off))):
  cH E O G ⟨dst,.load U p,ty,pos,after,g⟩ (Z q (get x)):=
 .of_pure fun a w S _ ho hf=>by
  have H:a.eval p=an b off:=hp S a hf
  obtain⟨⟨_,cur,h5,h6⟩,_⟩:=ho.mem _ hm
  have h7:=hget S _ _ h6
  refine⟨_,?_,_,rfl,h7⟩
  simp [execOp,H,an,Instr.loadAt,Instr.sureAddr,lR ti h5 hsz hag h7]
def cE:jj r 0 r (fun x=>x):=fun S cs x h=>by
 have hl:=r.len h
 simpa [<-hl] using h
end
end

def cP{p:Rp α}:eP (cn p q) 0 p (fun x y=>(y,x.2)):=fun S cs x ds y h k=>by
 obtain⟨a,b,e,H,J⟩:=h
 have hl:=p.len H
 refine⟨ds,b,?_,k,J⟩
 rw [e,<-hl];simp
variable{s:Rp γ}
def aF{p:Rp α}{off' :Nat}{u:β->γ->β}(h:eP q off s u)(ho:off' =p.sz+off):eP (cn p q) off' s (fun x y=>(x.1,u x.2 y)):=fun S cs x ds y D hy=>by
 obtain⟨a,b,e,H,J⟩:=D
 have hl:=p.len H
 refine⟨a,b.take off++ds++b.drop (off+s.sz),?_,H,h S b x.2 ds y J hy⟩
 rw [e,ho,<-hl,List.take_length_add_append,show a.length+off+s.sz=a.length+(off+s.sz)from by omega,List.drop_length_add_append]
 simp
def bR{p:Rp α}{q:Rp γ}{u:α->γ->α}{f:β->α}{set:β->γ->β}(h:eP p off q u)(hf: ∀x y,f (set x y)=u (f x) y):eP (kg p f) off q set:=fun S cs x ds y D hy=>by
 show p.rc S _ (f (set x y))
 rw [hf]
 exact h S cs (f x) ds y D hy
def gO(P:Program)(T:TypeId):Option (List (Nat×Nat)):=
 match P.underlying T with
 |some (.struct fs)=>fs.toList.mapM fun f=>(P.info? f.type).map fun q=>(f.offset,q.size)
 |_=>none
def Gu{P:Program}: ∀(fs:List Field) (ps:List (Nat×Nat)) (w:World),fs.mapM (fun f=>(P.info? f.type).map fun q=>(f.offset,q.size))=some ps->
  (fs.mapM (fun f=>do pure (f.offset,<-sizeOf f.type):Field->Sem (Nat×Nat))).run P w= .ok ps w
 |[],ps,w,h=>by
  simp at h;subst h
  simp
 |f::fs,ps,w,h=>by
  simp only [List.mapM_cons]at h ⊢
  cases hq:P.info? f.type with
  |none=>simp [hq]at h
  |some q=>
   cases hr:fs.mapM (fun f=>(P.info? f.type).map fun q=>(f.offset,q.size))with
   |none=>simp [hq,hr]at h
   |some qs=>
    simp [hq,hr]at h
    subst h
    have ih:=Gu fs qs w hr
    simp [sizeOf,typeInfo,hq]at ih ⊢
    simp [ih]
section
variable{ty:TypeId}
def BP(E:En)(G:mM){α:Type}(r:Rp α)(ps:List (Nat×Nat)):α->List (Nat×Operand)->α->Prop
 |x,[],y=>x=y
 |x,(i,o)::rest,y=> ∃(β:Type) (q:Rp β) (set:α->β->α) (off:Nat) (v:β),ps[i]? =some (off,q.sz)/\eP r off q set/\Nat.ble (off+q.sz) r.sz=true/\bk E.N G o (Z q v)/\BP E G r ps (set x v) rest y
def Hi{α:Type}{r:Rp α}{ps:List (Nat×Nat)}{S:SH}{a:Act}(hF:dm E.N S a G): ∀(parts:List (Nat×Operand)) (x y:α) (cs:List Value),BP E G r ps x parts y->r.rc S cs x->
  ∃ds,r.rc S ds y/\Instr.fill (ps.toArray[·]?) cs.toArray (parts.map fun p=>(p.1,a.eval p.2))=some ds.toArray
 |[],x,y,cs,h,D=>by
  have e:x=y:=h
  subst e
  exact⟨cs,D,rfl⟩
 |(i,o)::rest,x,y,cs,⟨β,q,set,off,v,H,J,h3,h4,h5⟩,D=>by
  obtain⟨c,hv,hc⟩:=h4 S a hF
  have hl:=q.len hc
  have hlr:=r.len D
  have h3' :=uq h3
  have hcells:(a.eval o).cells=c.toArray:=by rw [hv];exact xq hc
  obtain⟨ds,h6,h7⟩:=Hi hF rest _ y _ h5 (J S cs x c v D hc)
  refine⟨ds,h6,?_⟩
  have hps:ps.toArray[i]? =some (off,q.sz):=by simpa using H
  have hs:(a.eval o).cells.size=q.sz:=by rw [hcells];simpa using hl
  have h8:=CB (a.eval o) off (cs.take off) ((cs.drop off).take q.sz) (cs.drop (off+q.sz)) (by rw [hs];simp;omega) (by simp;omega)
  have e1:cs.take off++(cs.drop off).take q.sz++cs.drop (off+q.sz)=cs:=by
   rw [gF,<-xR,uN,uN]
  rw [e1]at h8
  simp only [uM,Instr.fill,hps]
  rw [cm (by simp [hs,hlr];omega),h8,hcells]
  simpa using h7
def bS{x:α}{parts:List (Nat×Operand)}{ps:List (Nat×Nat)}(ti:TI E.P T sz bytes agg z)(hp:gO E.P T=some ps)(hz: ∀S,r.rc S z x)(A:BP E G r ps x parts y)(ha:r.agg=true:=by rfl):
  cH E O G ⟨dst,.build T parts.toArray,ty,pos,after,g⟩ (Z r y):=
 .of_pure fun a w S _ _ hF=>by
  obtain⟨zv,hzr,hzc⟩:=ti.zero w
  obtain⟨ds,H,J⟩:=Hi hF parts x y z A (hz S)
  unfold gO at hp
  split at hp
  ·rename_i fs hu
   have hpl:=Gu fs.toList ps w hp
   have hpl2:(fs.mapM (fun f=>do pure (f.offset,<-sizeOf f.type):Field->Sem (Nat×Nat))).run E.P w= .ok ps.toArray w:=by
    have hfs:fs=fs.toList.toArray:=by simp
    generalize fs.toList=l at hfs hpl
    subst hfs
    rw [List.mapM_toArray,Sem.run_map,hpl]
    rfl
   refine⟨.agg ds.toArray,?_,ds,(uS ha ds).symm,H⟩
   simp only [execOp,Instr.build,sA,hzr,tJ,jZ hu,hpl2,hzc]
   have hm:(parts.toArray.map fun(i,x)=>(i,a.eval x)).toList=parts.map fun p=>(p.1,a.eval p.2):=by simp
   rw [hm,J]
   simp
  ·cases hp
end
section
def sw{k:Nat}{x:α}(hr:fn.results= #[.cell k T])(ti:TI P T sz bytes agg z)(hsz:r.sz=sz)(hag:r.agg=agg)(hk:look G k=some (bo r x)):
  AT ⟨P,⟨N,[]⟩,B,w0,S0,none⟩ (bodyPost P fn (Oo ⟨P,⟨N,[]⟩,B,w0,S0,none⟩ (Z r x))) .ret O G:=fun a w S st=>by
 obtain⟨b,off,c,U,fr,H,J,h3⟩:=st.facts.at_ k _ hk
 obtain⟨c',h4,h5⟩:=st.sat.part J (r.len h3)
 rw [<-h5]at h3
 refine⟨st.facts.defers,r.val ((c'.toList.drop off).take r.sz),?_,_,S,rfl,st.ext,st.sat,_,rfl,h3⟩
 have hl:=lR ti h4 hsz hag h3
 have h1' :a.tmps[k]?.getD undef=Value.pointer (some ⟨b,off,none⟩):=by simpa [KO] using H
 simp [results,hr,h1',asAddr,hl]
end

def o0(L:List Oper):Nat->Nat->Nat->Bool
 |0,_,_=>false
 |n+1,i,j=>match L[i]? with
  |some o=>o.after.toList.any fun e=>Region.binds .any e&&(Nat.beq e.on j||o0 L n e.on j)
  |none=>false
def yx(L:List Oper)(m:Nat):Bool:=(List.range m).all fun j=>o0 L L.length m j
def Ba(L:List Oper)(n k:Nat):Bool:=(List.range k).all fun m=>yx L (n+m)&&(match L[n+m]? with|some o=>ft (n+m) o&&o.guard.isNone|none=>false)
variable{L:List Oper}{done:Array Bool}{hi j:Int}
def gW{L:List Oper}{done:Array Bool}(down: ∀j o,L[j]? =some o->done.getD j false=true-> ∀e∈o.after,Region.binds .any e=true->done.getD e.on false=true):
  ∀(n i j:Nat),(∀o,L[i]? =some o-> ∀e∈o.after,Region.binds .any e=true->done.getD e.on false=true)->o0 L n i j=true->done.getD j false=true
 |0,_,_,_,h=>by cases h
 |n+1,i,j,hi,h=>by
  unfold o0 at h
  cases ho:L[i]? with
  |none=>rw [ho]at h;cases h
  |some o=>
   rw [ho]at h
   obtain⟨e,he0,A⟩:=EZ.1 h
   have he:e∈o.after:=by simpa using he0
   rw [jM,zg]at A
   have hd:=hi o ho e he A.1
   rcases A.2 with H|H
   ·rw [<-qZ H];exact hd
   ·exact gW down n e.on j (fun p hp=>down e.on p hp hd) H
def DJ.stepT{l:List Oper}(h:DJ E O G l ts done a w S){t:Ty}{v:Value}(hi:l[i]? =some o)(hd:o.dst=some ah)(hdN:ah<E.N.n)(hs2: ∀j p,l[j]? =some p->done.getD j false=true->p.dst=some ah->i=j)(hwait: ∀e∈o.after,Region.binds .any e=true->done.getD e.on false=true)(M:ts[i]? =some t)(hun:done.getD i true=false)(hext:lq wC w S w' S')(hsat:mU w' S')(hv:t.p S' v):DJ E O G l ts (done.setIfInBounds i true) (a.put o.dst v) w' S' :=by
 have hda:ah<a.tmps.size:=by rw [h.size];exact hdN
 have hlt:i<done.size:=by rw [h.dsz];exact(kN.1 hi).1
 have hset: ∀j,(done.setIfInBounds i true).getD j false=true->j=i\/done.getD j false=true:=fun j hj=>by
  by_cases hij:i=j
  ·exact .inl hij.symm
  ·rw [yK false hij]at hj;exact .inr hj
 have hseti:(done.setIfInBounds i true).getD i false=true:=by simp [hlt]
 have hun' :done.getD i false=false:=by simp [hlt]at hun ⊢;exact hun
 refine⟨h.ext.step0 hext,hsat,h.own.ext0 hext,?_,?_,by simp [h.dsz],fun j p hj hdone e he A=>?_,fun k u hk hno=>?_,fun j p d' u hj hdone hd' hu=>?_⟩
 ·rw [hd];simp [Act.put,h.size]
 ·rw [hd];exact h.defers
 ·rcases hset j hdone with rfl|hj'
  ·rw [hi]at hj
   have:o=p:=by simpa using hj
   subst this
   exact AP (hwait e he A)
  ·exact AP (h.down j p hj hj' e he A)
 ·have hne:ah≠k:=fun e=>hno i o hi hseti (by rw [hd,e])
  rw [hd,wx hda,cm hne]
  exact u.mono hext.keep (h.old k u hk fun j p hj hdone=>hno j p hj (AP hdone))
 ·rw [hd,wx hda]
  rcases hset j hdone with rfl|hj'
  ·rw [hi]at hj
   have:o=p:=by simpa using hj
   subst this
   rw [hd]at hd'
   have:ah=d' :=by simpa using hd'
   subst this
   rw [cx rfl]
   rw [M]at hu
   have:t=u:=by simpa using hu
   subst this
   exact hv
  ·have hne:ah≠d' :=fun e=>by
    subst e
    have:=hs2 j p hj hj' hd'
    subst this
    rw [hj']at hun';cases hun'
   rw [cm hne]
   exact u.mono hext.keep (h.new j p d' u hj hj' hd' hu)
def p7(h:i<done.size):done.getD i true=done.getD i false:=by simp [h]
def wn(h:mN done=0)(hi:i<done.size):done.getD i false=true:=by
 unfold mN at h
 rw [List.countP_eq_zero]at h
 have J:done[i]∈done.toList:=by simp
 have:=h _ J
 rw [<-p7 hi]
 simpa [hi] using this
def BB{r:Option Nat}(hc: ∀m o,n<=m->L[m]? =some o->yx L m=true)(hedge: ∀m o,L[m]? =some o->ft m o=true):
  ∀(rest:List Oper) (m:Nat) (done:Array Bool) (fuel:Nat) (a:Act) (w:World),n<=m->L.drop m=rest->done.size=L.length->(∀j,j<L.length->(done.getD j false=true↔j<m))->mN done=fuel->
   wpListIn (fw r) 0 P L.toArray aC rest a w->wpAnyIn (fw r) 0 P .any L.toArray aC fuel done a w:=by
 intro rest
 induction rest with
 |nil=>
  intro m done fuel a w hnm hdrop hsz hdone hu h
  have hlen:L.length<=m:=KT.1 hdrop
  have hr:Region.ready .any L.toArray done=[]:=by
   cases hr:Region.ready .any L.toArray done with
   |nil=>rfl
   |cons i r=>
    have hm:i∈Region.ready .any L.toArray done:=by rw [hr];exact oh ..
    obtain⟨hun,o,ho,_⟩:=vA.1 hm
    have hi:i<L.length:=by simpa using (BA.1 ho).1
    have:=(hdone i hi).2 (by omega)
    rw [p7 (by omega)]at hun
    rw [hun]at this;cases this
  cases fuel with
  |zero=>exact⟨hr,h⟩
  |succ f=>exact⟨fun _=>h,fun i hi=>by rw [hr]at hi;cases hi⟩
 |cons o rest ih=>
  intro m done fuel a w hnm hdrop hsz hdone hu h
  have hm:m<L.length:=by
   rcases oP m L.length with h' |h'
   ·exact h'
   ·rw [KT.2 h']at hdrop;cases hdrop
  have hLm:L[m]? =some o:=by
   have:=y0 (xs:=L) (i:=m) (j:=0)
   rw [hdrop]at this
   simpa using this.symm
  have hmu:done.getD m true=false:=by
   have hnot: ¬(done.getD m false=true):=fun J=>by have:=(hdone m hm).1 J;omega
   rw [p7 (by omega)]
   exact DB _▸hnot
  have honly: ∀i∈Region.ready .any L.toArray done,i=m:=by
   intro i hi
   obtain⟨hun,p,hp,hwait⟩:=vA.1 hi
   have hp' :L[i]? =some p:=by simpa using hp
   have hil:i<L.length:=(kN.1 hp').1
   have hid: ¬i<m:=fun hlt=>by
    have J:=(hdone i hil).2 hlt
    rw [p7 (by omega)]at hun
    rw [hun]at J;cases J
   rcases oP m i with hlt|hge
   ·exfalso
    have hcov:=hc i p (by omega) hp'
    unfold yx at hcov
    have hre:=ph.1 hcov m (by simpa using hlt)
    have:done.getD m false=true:=by
     refine gW (L:=L) (done:=done) (fun j q hj hjd e he A=>?_) _ i m (fun q hq e he A=>?_) hre
     ·have hjl:j<L.length:=(kN.1 hj).1
      have hjm:=(hdone j hjl).1 hjd
      have:=hedge j q hj
      unfold ft at this
      have:=ph.1 this e (by simpa using he)
      simp only [A,qY,Bs,tM]at this
      exact(hdone e.on (by omega)).2 (by omega)
     ·have:q=p:=by rw [hp']at hq;simpa using hq.symm
      subst this
      exact hwait e he A
    have:=(hdone m hm).1 this
    omega
   ·omega
  have hready:m∈Region.ready .any L.toArray done:=by
   rw [vA]
   refine⟨hmu,o,by simpa using hLm,fun e he A=>?_⟩
   have:=hedge m o hLm
   unfold ft at this
   have:=ph.1 this e (by simpa using he)
   simp only [A,qY,Bs,tM]at this
   exact(hdone e.on (by omega)).2 this
  cases fuel with
  |zero=>
   have:=wn hu (i:=m) (by omega)
   have:=(hdone m hm).1 this
   omega
  |succ fuel=>
   refine⟨fun hr=>(by rw [hr]at hready;cases hready),fun i hi=>?_⟩
   have:=honly i hi
   subst this
   have hnext:=fun a w=>ih (i+1) (done.setIfInBounds i true) fuel a w (by omega) (by rw [<-xR,hdrop];rfl) (by simpa using hsz) (fun j hj=>by
    by_cases hij:i=j
    ·subst hij;have:i<done.size:=by omega
     simp [this]
    ·rw [yK false hij,hdone j hj];omega) (by have:=sJ hmu;omega)
   unfold wpOpIn
   have hLm' :L.toArray[i]? =some o:=by simpa using hLm
   rw [hLm']
   show if _ then _ else _
   unfold wpListIn at h
   by_cases hw:Region.wanted o (yielded L.toArray a.tmps)=true
   ·rw [cx hw]at h ⊢;exact Oper.wpIn_mono (fun a w hk=>hnext a w hk) h
   ·rw [cm hw]at h ⊢;exact⟨h.1,hnext _ _ h.2⟩
def KZ{l t:List Oper}(hsl:xX E.N.n [] l=true)(hlen:ts.length=l.length)(hd:DR E O G (l++t) ts 0 l)(M:Ba (l++t) l.length t.length=true)(hQ: ∀a w S,St E O (NL l ts G) a w S->wpListIn (fw E.r) 0 E.P (l++t).toArray aC t a w):
  ∀(fuel:Nat) (done:Array Bool) (a:Act) (w:World) (S:SH),mN done=fuel->(∀j,l.length<=j->done.getD j false=false)->DJ E O G (l++t) ts done a w S->wpAnyIn (fw E.r) 0 E.P .any (l++t).toArray aC fuel done a w:=by
 have hL1: ∀i o,i<l.length->(l++t)[i]? =some o->l[i]? =some o:=fun i o hi h=>by rwa [Cq hi]at h
 have hL2: ∀i o,l[i]? =some o->(l++t)[i]? =some o:=fun i o h=>by rw [Cq (kN.1 h).1];exact h
 have htail: ∀m o,l.length<=m->(l++t)[m]? =some o->yx (l++t) m=true/\ft m o=true:=fun m o hm ho=>by
  have hml:m<(l++t).length:=(kN.1 ho).1
  rw [pg]at hml
  unfold Ba at M
  have:=ph.1 M (m-l.length) (by simp;omega)
  rw [show l.length+(m-l.length)=m from by omega,ho]at this
  simp only [jM]at this
  exact⟨this.1,this.2.1⟩
 have hedge: ∀i o,(l++t)[i]? =some o->ft i o=true:=fun i o hi=>by
  rcases oP i l.length with h|h
  ·obtain⟨_,_,_,_,_,h,_⟩:=DR.get l 0 hd i o (hL1 i o h hi)
   simpa using h
  ·exact(htail i o h hi).2
 obtain⟨hs1,hs2⟩:=zu l [] hsl
 have fin: ∀fuel done a w S,mN done=fuel->(∀j,l.length<=j->done.getD j false=false)->DJ E O G (l++t) ts done a w S->(∀i,i<l.length->done.getD i false=true)->wpAnyIn (fw E.r) 0 E.P .any (l++t).toArray aC fuel done a w:=by
  intro fuel done a w S hu hfree h hall
  refine BB (n:=l.length) (fun m o hm ho=>(htail m o hm ho).1) hedge t l.length done fuel a w (f7 _) (by simp) h.dsz (fun j hj=>⟨fun hjd=>?_,fun hlt=>hall j hlt⟩) hu
   (hQ a w S ⟨h.ext,h.sat,h.own,h.size,h.defers,fun j u hj=>?_⟩)
  ·rcases oP j l.length with h' |h'
   ·exact h'
   ·rw [hfree j h']at hjd;cases hjd
  ·rcases I5 l ts j u (fun o ho e=>by obtain⟨ah,hd,_⟩:=hs1 o ho;rw [hd]at e;cases e) hlen hj with⟨i,o,H,J,h3⟩|⟨H,J⟩
   ·exact h.new i o j u (hL2 i o H) (hall i (kN.1 H).1) J h3
   ·refine h.old j u H fun i o ho hdn=>?_
    rcases oP i l.length with h' |h'
    ·exact J o (uo (hL1 i o h' ho))
    ·rw [hfree i h']at hdn;cases hdn
 have lower: ∀done a w S i,(∀j,l.length<=j->done.getD j false=false)->DJ E O G (l++t) ts done a w S->i∈Region.ready .any (l++t).toArray done->l.length<=i-> ∀j,j<l.length->done.getD j false=true:=by
  intro done a w S i hfree h hi hge j hj
  obtain⟨hun,p,hp,hwait⟩:=vA.1 hi
  have hp' :(l++t)[i]? =some p:=by simpa using hp
  have hcov:=(htail i p hge hp').1
  unfold yx at hcov
  have hre:=ph.1 hcov j (by simp;omega)
  exact gW h.down _ i j (fun q hq e he A=>by
   have:q=p:=by rw [hp']at hq;simpa using hq.symm
   subst this
   exact hwait e he A) hre
 intro fuel
 induction fuel with
 |zero=>
  intro done a w S hu hfree h
  exact fin 0 done a w S hu hfree h fun i hi=>wn hu (by rw [h.dsz,pg];omega)
 |succ fuel ih=>
  intro done a w S hu hfree h
  by_cases hall: ∀i,i<l.length->done.getD i false=true
  ·exact fin _ done a w S hu hfree h hall
  have hready0: ∀m i,i<m->i<l.length->Region.ready .any (l++t).toArray done=[]->done.getD i false=true:=by
   intro m
   induction m with
   |zero=>intro i h;omega
   |succ m ihm=>
    intro i him hil hr
    have his:i<done.size:=by rw [h.dsz,pg];omega
    by_cases hdn:done.getD i true=true
    ·rw [<-p7 his];exact hdn
    ·exfalso
     obtain⟨o,ho⟩: ∃o,(l++t)[i]? =some o:=⟨l[i],hL2 i _ (lr hil)⟩
     have hmem:i∈Region.ready .any (l++t).toArray done:=by
      rw [vA]
      refine⟨by simpa using hdn,o,by simpa using ho,fun e he A=>?_⟩
      have:=hedge i o ho
      unfold ft at this
      have:=ph.1 this e (by simpa using he)
      simp only [A,qY,Bs,tM]at this
      exact ihm e.on (by omega) (by omega) hr
     rw [hr]at hmem;cases hmem
  refine⟨fun hr=>absurd (fun i hi=>hready0 (i+1) i (by omega) hi hr) hall,fun i hi=>?_⟩
  have hil:i<l.length:=by
   rcases oP i l.length with h' |h'
   ·exact h'
   ·exact absurd (lower done a w S i hfree h hi h') hall
  obtain⟨hun,o,ho,hwait⟩:=vA.1 hi
  have ho' :(l++t)[i]? =some o:=by simpa using ho
  have hol:=hL1 i o hil ho'
  obtain⟨needs,u,H,J,h3,_,h5⟩:=DR.get l 0 hd i o hol
  rw [sE]at H h3
  have hF:=h.need ho' hun hwait J h3
  have h6:=h5 a w S h.sat h.own hF
  have hu' :mN (done.setIfInBounds i true)=fuel:=by have:=sJ hun;omega
  obtain⟨ah,hdd,hdN,_⟩:=hs1 o (uo hol)
  have huq: ∀j p,(l++t)[j]? =some p->done.getD j false=true->p.dst=some ah->i=j:=fun j p hj hjd hpd=>by
   rcases oP j l.length with h' |h'
   ·exact hs2 i j o p hol (hL1 j p h' hj) (by rw [hdd,hpd])
   ·rw [hfree j h']at hjd;cases hjd
  have hfree' : ∀j,l.length<=j->(done.setIfInBounds i true).getD j false=false:=fun j hj=>by
   rw [yK false (by omega)];exact hfree j hj
  unfold wpOpIn
  rw [ho]
  show if _ then _ else _
  by_cases hw:Region.wanted o (yielded (l++t).toArray a.tmps)=true
  ·rw [cx hw]at h6 ⊢
   refine mw (fun a' w' ⟨v,S',ha,he,hs,hv⟩=>?_) h6
   subst ha
   exact ih _ _ _ S' hu' hfree' (h.stepT ho' hdd hdN huq hwait H hun he hs hv)
  ·rw [cm hw]at h6 ⊢
   exact⟨fun _ _=>trivial,ih _ _ _ S hu' hfree' (h.stepT ho' hdd hdN huq hwait H hun (lq.refl _ _ _) h.sat h6)⟩
def Uz{id:Nat}{l t:List Oper}(hL:L=l++t)(hm:E.P.follows .mixedOrders=true)(hsl:xX E.N.n [] l=true)(hlen:ts.length=l.length)(M:Ba L l.length t.length=true)(hd:DR E O G L ts 0 l)(k:RG E L.toArray aC t O (NL l ts G)):CG E aC (.region id L.toArray true) O G:=fun a w S st=>by
 subst hL
 refine wpIn_region_any hm ?_
 obtain⟨he,hs⟩:=DA (w:=w) st.sat
 refine KZ hsl hlen hd M (fun a w S st=>k a w S st) _ _ _ _ S ?_ (fun j _=>?_)
  ⟨st.ext.step0 he,hs,st.own.ext0 he,st.facts.size,st.facts.defers,by simp,fun j o hj hdone=>?_,fun k t hk _=>st.facts.at_ k t hk,fun j o ah t hj hdone=>?_⟩
 ·unfold mN;rw [O7,OZ];simp
 ·simp [Bz];split<;>rfl
 ·simp [Bz]at hdone
  split at hdone<;>simp at hdone
 ·simp [Bz]at hdone
  split at hdone<;>simp at hdone

abbrev It(α:Type):=(σ:Type)->(α->σ->Option (Bool×σ))->σ->Option σ

def dA.weak: ∀{O:List OE},dA base B w S O->dA 0 wC w S O
 |[],_=>trivial
 |_::_,⟨H,J,h3⟩=>⟨⟨H.1,fun _ _=> .inl (jR _)⟩,J,dA.weak h3⟩
def AM: ∀{O:List OE},dA 0 wC w S O->(∀f∈O,∀k,f.fp k->base<=k\/B k)->dA base B w S O
 |[],_,_=>trivial
 |_::_,⟨H,J,h3⟩,h=>⟨⟨H.1,h _ (oh ..)⟩,J,AM h3 fun f hf=>h f (oO _ hf)⟩
section
variable{ty:TypeId}
end
def PS:List OE->List OE->Prop
 |[],_=>True
 |f::O,g::O' =>(∀k,f.fp k->g.fp k)/\PS O O'
 |_::_,[]=>False
def PS.mem: ∀{O O' :List OE},PS O O' -> ∀k,(∃f∈O,f.fp k)-> ∃f∈O',f.fp k
 |f::O,g::O',⟨H,J⟩,k,⟨q,hq,hk⟩=>by
  rcases gn.1 hq with e|e
  ·subst e;exact⟨g,oh ..,H k hk⟩
  ·obtain⟨q',h3,h4⟩:=PS.mem J k ⟨q,e,hk⟩
   exact⟨q',oO _ h3,h4⟩

variable{O1:List OE}{ι:Type}{O2:ι->List OE}
def ry: ∀{O1 O2:List OE},dA base B w S (O1++O2)->dA base B w S O1/\dA base B w S O2/\ ∀e∈O1,∀f∈O2,e.apart f
 |[],_,h=>⟨trivial,h,fun _ h=>(by cases h)⟩
 |e::O1,O2,⟨H,J,h3⟩=>by
  obtain⟨k1,k2,k3⟩:=ry h3
  refine⟨⟨H,fun f hf=>J f (FQ _ hf),k1⟩,k2,fun g V f hf=>?_⟩
  rcases gn.1 V with rfl|V
  ·exact J f (O0 _ hf)
  ·exact k3 g V f hf
def dA.cons{e:OE}(H:e.holds base B w S)(J: ∀f∈O,e.apart f)(h3:dA base B w S O):dA base B w S (e::O):=⟨H,J,h3⟩

section
section
variable{ty:TypeId}
end
end


section
variable{R:Ending->World->Prop}{ds:List Deferred}
end
def rT(t:Ty):Rp Unit where
 sz:=1
 agg:=false
 rc:=fun S cs _=> ∃v,cs=[v]/\v.oneCell' =true/\t.p S v
 mono:=fun h ⟨v,e,k,l⟩=>⟨v,e,k,t.mono h l⟩
 len:=fun⟨_,e,_⟩=>by rw [e];rfl
 one:=fun⟨v,e,k,_⟩ c hc=>by rw [e]at hc;simp at hc;subst hc;exact k
 sc:=fun _=>rfl
def tRT{t:Ty}{u:Unit}{v:Value}:(Z (rT t) u).p S v↔v.oneCell' =true/\t.p S v:=by
 constructor
 ·rintro⟨cs,rfl,w,rfl,H,J⟩;exact⟨H,J⟩
 ·rintro⟨H,J⟩;exact⟨[v],rfl,v,rfl,H,J⟩
variable{k' :IntKind}{lo:Int}
section
variable{ty:TypeId}
def cH.imp{t u:Ty}(h:cH E O G o t)(k: ∀S v,t.p S v->u.p S v):cH E O G o u:=fun a w S hs ho hf=>
 pZ (fun _ _ ⟨v,S',H,J,h3,h4⟩=>⟨v,S',H,J,h3,k S' v h4⟩) (h a w S hs ho hf)
def PB{args:α->List Ty}{res:β->Ty}{f:α->Option β}(D:bk E.N G x (jT E.P args res f)):cH E O G ⟨dst,.box T x,ty,pos,after,g⟩ (bo (rT (jT E.P args res f)) ()):=
 NQ (fun S a hf=>tRT.2 ⟨by obtain⟨_,_,e,_⟩:=D S a hf;rw [e];rfl,D S a hf⟩)
def ua{t:Ty}{p:Operand}(ti:TI E.P U 1 bytes false z)(hp:bk E.N G p (bo (rT t) ())):cH E O G ⟨dst,.load U p,ty,pos,after,g⟩ t:=
 (eS (r:=rT t) (x:=()) ti rfl rfl hp).imp fun _ _ h=>(tRT.1 h).2

def X8:rV.rc S [.slice none 0 0] (Y none 0 0):=⟨rfl,rfl⟩
def PQ{N:Fr}(h:bk N G x (tV (Y l cap n))):bk N G x (Z rV (Y l cap n)):=fun S a hf=>CA.2 ⟨h S a hf,by cases l<;>rfl⟩
def xy{p:Operand}(ti:TI E.P U 1 bytes false z)(hm:bx rV T b (Y l cap n)∈O)(hp:bk E.N G p (tV (an b 0))):
  cH E O G ⟨dst,.load U p,ty,pos,after,g⟩ (tV (Y l cap n)):=(bA (q:=rV) (get:=fun x=>x) ti rfl rfl cE hm hp).imp fun _ _ h=>(CA.1 h).1

def dJ{α:Type}(xs:List α)(lo hi:Int):Option (List α):=if 0<=lo/\lo<=hi/\hi<=(xs.length:Int)then some ((xs.take hi.toNat).drop lo.toNat)else none
def gI(h:dJ xs lo hi=some ys): ∃l m:Nat,lo=l/\hi=m/\l<=m/\m<=xs.length/\ys=(xs.take m).drop l:=by
 unfold dJ at h
 split at h
 ·rename_i hc
  exact⟨lo.toNat,hi.toNat,by omega,by omega,by omega,by omega,by simpa using h.symm⟩
 ·cases h
def BI{a:Option Addr}{l:Nat}(h:IK r S a xs)(hl:l<=m)(hm:m<=xs.length)(hc:xs.length<=cap):
  IK r S (if cap=l then a else a.map (·.add (l*r.sz))) ((xs.take m).drop l):=by
 by_cases hlm:l=m
 ·left;subst hlm;simp
 right
 rcases h with h|⟨b,off,c,T,fr,e1,e2,e3⟩
 ·subst h;simp at hm;omega
 subst e1
 have hne: ¬(cap=l):=by omega
 refine⟨b,off+l*r.sz,c,T,fr,?_,e2,?_⟩
 ·rw [cm hne];simp [Addr.add]
 have hlen:((xs.take m).drop l).length=m-l:=by simp;omega
 have e4:xs=(xs.take m).take l++((xs.take m).drop l++xs.drop m):=by
  rw [<-gF,uN,uN]
 have H:((xs.take m).take l).length=l:=by simp;omega
 rw [e4]at e3
 have J:=(rq e3).2
 have h3:=(rq J).1
 rw [H]at h3
 rw [hlen]at h3 ⊢
 rw [<-e4]at h3
 rw [Cs,yL,xR]at h3
 have hmin:min ((m-l)*r.sz) (xs.length*r.sz-l*r.sz)=(m-l)*r.sz:=by
  rw [<-Nat.sub_mul];exact Co (By _ (by omega))
 rwa [hmin]at h3
def rN{n:Int}{y:Nat}{code:BoundsCode}(h0:0<=n)(H:n<=y):(Instr.sliceBound (.int k n) y code).run P w= .ok n.toNat w:=by
 simp [Instr.sliceBound,asIntOf,h0,H]
def nS{hi:Operand}(M:E.P.underlying t=some (.slice T))(ti:TI E.P T sz bytes agg z)(hsz:r.sz=sz)(D:bk E.N G x (Z (eM r) xs))(hhi:bk E.N G hi (Z (rI k') j))(h:dJ xs 0 j=some ys):cH E O G ⟨dst,.slice t x none (some hi) none,ty,pos,after,g⟩ (Z (eM r) ys):=
 .of_pure fun a w S _ _ hf=>by
  subst hsz
  obtain⟨ad,cap,H,J,h3,h4⟩:=m4.1 (D S a hf)
  have h6:=f8.1 (hhi S a hf)
  obtain⟨l,m,hl,rfl,h7,h8,rfl⟩:=gI h
  have hl0:l=0:=by omega
  subst hl0
  have hlen:((xs.take m).drop 0).length=m-0:=by simp;omega
  refine⟨.slice (if cap=0 then ad else ad.map (·.add (0*r.sz))) (m-0) (cap-0),?_,m4.2 ⟨_,cap-0,by rw [hlen],by omega,by omega,BI h4 h7 h8 J⟩⟩
  simp [execOp,Instr.sliceAt,H,h6,Instr.slice,jZ M,Instr.sliceBounds,rN (k:=k') (n:=(m:Int)) (y:=cap) (by omega) (by omega),ti.sizeOf]
def NN{lo:Operand}{i:Int}(M:E.P.underlying t=some (.slice T))(ti:TI E.P T sz bytes agg z)(hsz:r.sz=sz)(D:bk E.N G x (Z (eM r) xs))(hlo:bk E.N G lo (Z (rI k) i))(h:dJ xs i (xs.length:Int)=some ys):cH E O G ⟨dst,.slice t x (some lo) none none,ty,pos,after,g⟩ (Z (eM r) ys):=
 .of_pure fun a w S _ _ hf=>by
  subst hsz
  obtain⟨ad,cap,H,J,h3,h4⟩:=m4.1 (D S a hf)
  have h5:=f8.1 (hlo S a hf)
  obtain⟨l,m,rfl,hm,h7,h8,rfl⟩:=gI h
  have hm' :m=xs.length:=by omega
  subst hm'
  have hlen:((xs.take xs.length).drop l).length=xs.length-l:=by simp
  refine⟨.slice (if cap=l then ad else ad.map (·.add (l*r.sz))) (xs.length-l) (cap-l),?_,m4.2 ⟨_,cap-l,by rw [hlen],by omega,by omega,BI h4 h7 h8 J⟩⟩
  simp [execOp,Instr.sliceAt,H,h5,Instr.slice,jZ M,Instr.sliceBounds,rN (k:=k) (n:=(l:Int)) (y:=xs.length) (by omega) (by omega),ti.sizeOf]
end
def xN{id:Nat}(m:Nat)(hm:E.P.follows .mixedOrders=true)(hsl:xX E.N.n [] (L.take m)=true)(hlen:ts.length=(L.take m).length)(M:Ba L (L.take m).length (L.drop m).length=true)(hd:DR E O G L ts 0 (L.take m))(k:RG E L.toArray aC (L.drop m) O (NL (L.take m) ts G)):CG E aC (.region id L.toArray true) O G:=Uz (uN m L).symm hm hsl hlen M hd k

def fJ(P:Program){α:Type} [DecidableEq α](t:TypeId)(r:Rp α)(n:Nat):Prop:=
 ∀(S:SH) (cs ds:List Value) (x y:α) (ah:Nat) (w:World),r.rc S cs x->r.rc S ds y->(Op.equalIn (ah+n) t (r.val cs) (r.val ds)).run P w= .ok (decide (x=y)) w
def o9(h:P.underlying t=some (.int k')):fJ P t (rI k) (n+1):=fun S cs ds x y ah w D hy=>by
 have H:cs=[.int k x]:=D
 have J:ds=[.int k y]:=hy
 subst H J
 have:(Op.equalIn (ah+n+1) t (.int k x) (.int k y)).run P w= .ok (x==y) w:=by simp [Op.equalIn,jZ h]
 have e:(x==y)=decide (x=y):=by by_cases h:x=y<;>simp [h]
 rw [e]at this
 exact this
def Ml(h:P.underlying t=some .bool):fJ P t rB (n+1):=fun S cs ds x y ah w D hy=>by
 have H:cs=[.bool x]:=D
 have J:ds=[.bool y]:=hy
 subst H J
 have:=run_equalIn_bool' (P:=P) w (ah+n) t x y h
 simp only [Rp.val,rB,List.headD_cons,kM,jh]
 rw [show ah+(n+1)=ah+n+1 from rfl,this]
 cases x<;>cases y<;>rfl
def vf(h:P.underlying t=some .string):fJ P t rS (n+1):=fun S cs ds x y ah w D hy=>by
 have H:cs=[.string ⟨x.toArray⟩]:=D
 have J:ds=[.string ⟨y.toArray⟩]:=hy
 subst H J
 have:=run_equalIn_string (P:=P) w (ah+n) t ⟨x.toArray⟩ ⟨y.toArray⟩ h
 simp only [Rp.val,rS,List.headD_cons,kM,jh]
 rw [show ah+(n+1)=ah+n+1 from rfl,this]
 simp only [ByteArray.toList_eq]
 by_cases e:x=y<;>simp [e]
abbrev Fd:=TypeId×Nat×Bool
def N8(f:Field):Fd:=(f.type,f.offset,f.name== "_")
def RS(ah:Nat)(xs ys:Array Value):List Fd->Sem Bool
 |[]=>pure true
 |f::fs=>
  if f.2.2=false then do
   let a<-part f.1 xs f.2.1
   let b<-part f.1 ys f.2.1
   let r<-Op.equalIn ah f.1 a b
   if(!r)=true then pure false else RS ah xs ys fs
  else RS ah xs ys fs
def Mn(ah:Nat)(xs ys:Array Value): ∀fs:List Field,Op.eqFields ah xs ys fs=RS ah xs ys (fs.map N8)
 |[]=>rfl
 |f::fs=>by
  unfold Op.eqFields RS
  rw [Mn ah xs ys fs]
  by_cases h:f.name= "_"
  ·have e:((N8 f).2.2=false)=False:=by simp [N8,h]
   simp only [uM,e,jh]
   rw [cm (by simpa using h)]
  ·have e:((N8 f).2.2=false)=True:=by simp [N8,h]
   simp only [uM,e,jb]
   rw [cx (by simpa using h)]
   rfl
def xP(P:Program){α:Type}(r:Rp α)(n:Nat)(fs:List Fd)(c:α->α->Bool):Prop:=
 ∀(S:SH) (cs ds:List Value) (x y:α) (ah:Nat) (w:World),r.rc S cs x->r.rc S ds y->(RS (ah+n) cs.toArray ds.toArray fs).run P w= .ok (c x y) w
def xP.nil:xP P r n [] (fun _ _=>true):=fun _ _ _ _ _ _ _ _ _=>rfl
def uY(ti:TI P t sz bytes agg z)(hsz:q.sz=sz)(hag:q.agg=agg)(hf:jj r off q get){cs:List Value}{x:α}(D:r.rc S cs x)(w:World):
  (part t cs.toArray off).run P w= .ok (q.val ((cs.drop off).take q.sz)) w:=by
 have h:=hf S cs x D
 have hl:=q.len h
 subst hsz hag
 unfold part
 by_cases ha:q.agg=true
 ·have e1:=ti.isAgg w
  simp only [sA,e1,ha,tJ,jb,ti.sizeOf,ED]
  unfold Rp.val
  rw [cx ha]
  congr 2
  apply Array.ext'
  simp
 ·rw [DB]at ha
  have e1:=ti.isAgg w
  have hs1:=q.sc ha
  simp only [sA,e1,ha,tJ,kM,jh]
  rw [hs1]at hl ⊢
  obtain⟨v,hv⟩:=List.length_eq_one_iff.1 hl
  have hc:cs[off]? =some v:=by
   have:((cs.drop off).take 1)[0]? =some v:=by rw [hv];rfl
   rw [DC (by omega),y0]at this
   simpa using this
  unfold Rp.val
  rw [hv,ha]
  simp [hc]
def xP.cons [DecidableEq β]{t:Nat}{fs:List Fd}{c:α->α->Bool}(ti:TI P t sz bytes agg z)(hsz:q.sz=sz)(hag:q.agg=agg)(hf:jj r off q get)(he:fJ P t q n)(hr:xP P r n fs c):
  xP P r n ((t,off,false)::fs) (fun x y=>decide (get x=get y)&&c x y):=fun S cs ds x y ah w D hy=>by
 have H:=uY ti hsz hag hf D w
 have J:=uY ti hsz hag hf hy w
 have h3:=he S _ _ _ _ ah w (hf S cs x D) (hf S ds y hy)
 unfold RS
 simp only [jb,sA,H,J,h3,tJ]
 by_cases e:get x=get y
 ·simp only [e,decide_true,qY,kM,jh,wY]
  exact hr S cs ds x y ah w D hy
 ·simp [e]
def pK [DecidableEq α]{t:Nat}{fs:List Fd}{c:α->α->Bool}(M:(P.underlying t).map (fun ah=>match ah with| .struct l=>(true,l.toList.map N8)|_=>(false,[]))=some (true,fs))(hp:P.stoodInHeld t=false)(ha:r.agg=true)(hr:xP P r n fs c)(hc: ∀x y,c x y=decide (x=y)):fJ P t r (n+1):=fun S cs ds x y ah w D hy=>by
 obtain⟨l,H,J⟩: ∃l,P.underlying t=some (.struct l)/\l.toList.map N8=fs:=by
  cases hu:P.underlying t with
  |none=>rw [hu]at M;cases M
  |some ah=>
   rw [hu]at M
   cases ah<;>simp at M
   exact⟨_,rfl,M⟩
 have hfo:P.fieldsOf t=l:=by unfold Program.fieldsOf;rw [H]
 have:=run_equalIn_struct (P:=P) w (ah+n) t cs.toArray ds.toArray (by rw [hfo];exact H) hp
 rw [uS ha,uS ha,show ah+(n+1)=ah+n+1 from rfl,this,hfo,Mn,J,hr S cs ds x y ah w D hy,hc]
def ef [DecidableEq α](h:fJ P t r n)(m:Nat):fJ P t r (m+n):=fun S cs ds x y ah w D hy=>by
 have:=h S cs ds x y (ah+m) w D hy
 rwa [Nat.add_assoc]at this
def FM.of [DecidableEq α](V:P.eqGuardType P.depth t=false)(h:fJ P t r 20):FM P t r:=⟨V,fun S cs ds x y ah w D hy=>h S cs ds x y ah w D hy⟩

def Qo{l:List α}{e:α}(h:xs.drop i=e::l):decide ((i:Int)<(xs.length:Int))=true:=by
 have:i<xs.length:=by
  rcases oP i xs.length with h' |h'
  ·exact h'
  ·rw [O4 h']at h;cases h
 simp;omega
def TR(h:xs.drop i=[]):decide ((i:Int)<(xs.length:Int))=false:=by
 have:=KT.1 h
 simp;omega
def cO{l:List α}{e:α}(h:xs.drop i=e::l):xs.drop (i+1)=l:=by
 rw [<-xR,h];rfl
def cW{l:List α}{e:α}(h:xs.drop i=e::l):fz xs (i:Int)=some e:=by
 rw [jt]
 have:=y0 (xs:=xs) (i:=i) (j:=0)
 rw [h]at this
 simpa using this.symm
def Qp{l:List α}{e:α}(h:xs.drop i=e::l)(hN:xs.length<=maxLen):i<9223372036854775807:=by
 have:=of_decide_eq_true (Qo h)
 simp only [maxLen]at hN
 omega
def Rw{k:Nat}(h:N-i=k+1):decide ((i:Int)<(N:Int))=true:=by simp;omega
def Rx(h:N-i=0):decide ((i:Int)<(N:Int))=false:=by simp;omega
def NU{k:Nat}(h:N-i=k+1):N-(i+1)=k:=by omega
def NV{k:Nat}(h:N-i=k+1)(hN:N<=9223372036854775807):i<9223372036854775807:=by omega
def Z9(h:n<=maxLen):n<=9223372036854775807:=by simp only [maxLen]at h;omega
variable{ix:Operand}{zs:List α}
section
section
variable{ty:TypeId}
def wB{one:Operand}(hi:i<9223372036854775807)(D:bk E.N G x (Z (rI .i64) (i:Int)))(H:bk E.N G one (Z (rI .i64) 1)):
  cH E O G ⟨dst,.binOp .add xt x one yt,ty,pos,after,g⟩ (Z (rI .i64) ((i+1:Nat):Int)):=by
 have e:IntKind.i64.wrap ((i:Int)+1)=((i+1:Nat):Int):=by
  rw [AQ];omega
 have:=fq (E:=E) (O:=O) (dst:=dst) (ty:=ty) (pos:=pos) (after:=after) (g:=g) (xt:=xt) (yt:=yt) D H
 rwa [e]at this
end
def oe(hm:mh mm r T l cap xs∈O)(h:xs.length<=maxLen->CG E aC c O G):CG E aC c O G:=fun a w S st=>by
 refine h ?_ a w S st
 obtain⟨cells,H,_⟩:=(st.own.mem _ hm).1
 cases l with
 |none=>have:=H.1;omega
 |some b=>obtain⟨cur,_,g2,g3,_⟩:=H;exact oj g2 g3
def St.dataAt{k:Nat}(h:St E O G a w S)(hk:look G k=some (tO r l cap xs)):St E O ((k,Z (eM r) xs)::G) a w S:=h.cons (h.facts.at_ k _ hk).2
def vx(k:Nat)(hk:look G k=some (tO r l cap xs))(h:CG E aC c O ((k,Z (eM r) xs)::G)):CG E aC c O G:=fun a w S st=>h a w S (st.dataAt hk)
def nF(k:Nat)(hk:look G k=some (tO r l cap xs))(h:AT E aC e O ((k,Z (eM r) xs)::G)):AT E aC e O G:=fun a w S st=>h a w S (st.dataAt hk)
def dO(l:Option Nat)(off:Nat):Value:=
 match l with
 |none=> .pointer none
 |some b=>an b off
def r0(h:AY mm r T l cap xs w S){e:α}(hi:xs[i]? =some e):
  ∃b cur,l=some b/\w.heap[b]? =some (.cells cur T (0,0))/\xs.length<=cap/\cur.size=cap*r.sz/\r.rc S ((cur.toList.drop (i*r.sz)).take r.sz) e:=by
 obtain⟨cells,H,J,_⟩:=h
 have hlt:=(kN.1 hi).1
 cases l with
 |none=>have:=H.1;omega
 |some b=>
  obtain⟨cur,g1,g2,g3,g4,g5⟩:=H
  refine⟨b,cur,rfl,g1,g2,g4,?_⟩
  have h3:=CS J hi
  rw [<-g5,Cs,yL]at h3
  have h4:i*r.sz+r.sz<=xs.length*r.sz:=by
   rw [<-Nat.succ_mul];exact By _ hlt
  rwa [Co (by omega)]at h3
def kx{i:Int}{e:α}(h:fz xs i=some e):0<=i/\xs[i.toNat]? =some e:=by
 unfold fz at h
 split at h
 ·exact⟨by assumption,h⟩
 ·cases h
section
variable{ty:TypeId}
def cz{e:TypeId}{i:Int}(M:E.P.underlying t=some (.slice e))(ti:TI E.P e sz bytes agg z)(hm:mh mm r U l cap xs∈O)(D:bk E.N G x (tV (Y l cap n)))(hi:bk E.N G ix (Z (rI k) i))(hy:fz xs i=some y)(hn:n=xs.length:=by rfl):
  cH E O G ⟨dst,.indexAddr t x ix,ty,pos,after,g⟩ (tV (dO l (i.toNat*sz+0))):=
 .of_pure fun a w S _ ho hf=>by
  subst hn
  have H:a.eval x=Y l cap xs.length:=D S a hf
  have h3:a.eval ix= .int k i:=f8.1 (hi S a hf)
  obtain⟨h0,hy'⟩:=kx hy
  obtain⟨b,cur,rfl,_⟩:=r0 (ho.mem _ hm).1 hy'
  have hlt:i.toNat<xs.length:=(kN.1 hy').1
  refine⟨_,?_,rfl⟩
  have hc:0<=i/\i<(xs.length:Int):=⟨h0,by omega⟩
  simp [execOp,H,h3,Y,Instr.indexAt,asIntOf,jZ M,hc,ti.sizeOf,jA,dO,an]
def dN{foff:Nat}{i:Int}{p:Operand}(ti:TI E.P T sz bytes agg z)(hsz:q.sz=sz)(hag:q.agg=agg)(hget:jj r foff q get)(hoff:Nat.ble (foff+q.sz) r.sz=true)(hm:mh mm r U l cap xs∈O)(hy:fz xs i=some y)(hp:bk E.N G p (tV (dO l (i.toNat*r.sz+foff)))):cH E O G ⟨dst,.load T p,ty,pos,after,g⟩ (Z q (get y)):=
 .of_pure fun a w S _ ho hf=>by
  have H:a.eval p=dO l (i.toNat*r.sz+foff):=hp S a hf
  obtain⟨h0,hy'⟩:=kx hy
  obtain⟨b,cur,rfl,A,_,_,h6⟩:=r0 (ho.mem _ hm).1 hy'
  have hoff' :=uq hoff
  have h7:=hget S _ _ h6
  rw [Cs,yL,xR,Co (by omega)]at h7
  refine⟨_,?_,_,rfl,h7⟩
  simp [execOp,H,dO,an,Instr.loadAt,Instr.sureAddr,lR ti A hsz hag h7]
def Ic{o:Nat}{p:Operand}(hf:bO E.P T i=some (off,sz))(h0:Nat.beq sz 0=false)(hm:mh mm r U l cap xs∈O)(hy:fz xs j=some y)(hp:bk E.N G p (tV (dO l o))):
  cH E O G ⟨dst,.fieldAddr T p i,ty,pos,after,g⟩ (tV (dO l (o+off))):=
 .of_pure fun a w S _ ho hF=>by
  have H:a.eval p=dO l o:=hp S a hF
  obtain⟨_,hy'⟩:=kx hy
  obtain⟨b,cur,rfl,_⟩:=r0 (ho.mem _ hm).1 hy'
  obtain⟨fs,f,e1,e2,e3,e4⟩:=DX hf
  have h0' :sz≠0:=fun e=>by subst e;simp at h0
  refine⟨_,?_,rfl⟩
  simp [execOp,H,dO,an,Instr.fieldAt,jZ e1,e2,Instr.sureAddr,fieldPlace,e4,h0',e3,jA]
end
def CP{α:Type}{r:Rp α}{S:SH}{y:α}{c:List Value}(hc:r.rc S c y): ∀{xs:List α} {i:Nat} {cs:List Value},ul r S cs xs->i<xs.length->ul r S (cs.take (i*r.sz)++c++cs.drop (i*r.sz+r.sz)) (xs.set i y)
 |[],_,_,_,h=>by simp at h
 |x::xs,0,cs,⟨a,b,e,H,J⟩,_=>by
  have hl:=r.len H
  refine⟨c,b,?_,hc,J⟩
  rw [e,<-hl];simp
 |x::xs,i+1,cs,⟨a,b,e,H,J⟩,h=>by
  have hl:=r.len H
  have ih:=CP hc J (i:=i) (by simpa using h)
  refine⟨a,_,?_,H,ih⟩
  have e1:(i+1)*r.sz=a.length+i*r.sz:=by rw [hl,AO];omega
  rw [e,e1,List.take_length_add_append,Nat.add_assoc,List.drop_length_add_append]
  simp
def s9{foff:Nat}{v:β}{i:Int}{p:Operand}{ty:TypeId}(ti:TI E.P T sz bytes agg z)(hsz:q.sz=sz)(hset:eP r foff q set)(hoff:Nat.ble (foff+q.sz) r.sz=true)(hy:fz xs i=some y)(hz:xs.set i.toNat (set y v)=zs)(hp:bk E.N G p (tV (dO l (i.toNat*r.sz+foff))))(D:bk E.N G x (Z q v))(k:RG E ops aC rest (f6 r U l cap zs::O) G):
  RG E ops aC (⟨none,.store T p x,ty,pos,after,none⟩::rest) (f6 r U l cap xs::O) G:= .of rfl fun a w S st=>by
 subst hz
 have H:a.eval p=dO l (i.toNat*r.sz+foff):=hp S a st.facts
 obtain⟨ds,J,h3⟩:=D S a st.facts
 obtain⟨h0,hy'⟩:=kx hy
 have hlt:i.toNat<xs.length:=(kN.1 hy').1
 obtain⟨cells,hraw,hrc,hno⟩:=st.own.1.1
 obtain⟨b,cur,rfl,A,hle,hcs,h6⟩:=r0 st.own.1.1 hy'
 obtain⟨cur',hb',hle',hmax,hcs',hct⟩:=hraw
 have hcc:cur' =cur:=by rw [A]at hb';injection hb' with e;injection e with e1;exact e1.symm
 subst hcc
 have hno' :S b=none:=hno b rfl
 have hoff' :=uq hoff
 have hl3:=q.len h3
 have hmul:i.toNat*r.sz+r.sz<=xs.length*r.sz:=by rw [<-Nat.succ_mul];exact By _ hlt
 have hmul2:xs.length*r.sz<=cur'.size:=by rw [hcs];exact By _ hle
 obtain⟨w',hr,e1,e2,e3,e4,e5,e6⟩:=jO ti hsz h3 A (off:=i.toNat*r.sz+foff) (by omega)
 have hrun:(execOp a.eval ⟨none,.store T p x,ty,pos,after,none⟩).run E.P w= .ok .skip w' :=by
  simp [execOp,H,J,Instr.storeAt,dO,an,Instr.sureAddr,hr]
 refine⟨fun c h=>(by cases h),?_⟩
 rw [hrun]
 have hnew:=hset S _ _ _ _ h6 h3
 have hrc' :=CP hnew hrc hlt
 have hcl:=mC hrc
 have hcells:(cur'.toList.take (i.toNat*r.sz+foff)++ds++cur'.toList.drop (i.toNat*r.sz+foff+q.sz)).take (xs.length*r.sz)=
   cells.take (i.toNat*r.sz)++(((cur'.toList.drop (i.toNat*r.sz)).take r.sz).take foff++ds++((cur'.toList.drop (i.toNat*r.sz)).take r.sz).drop (foff+q.sz))++cells.drop (i.toNat*r.sz+r.sz):=by
  subst hct
  apply KP
  intro j
  simp only [List.getElem?_take,List.getElem?_append,y0,Bw,Ct,pg,HX]
  rcases oP j (xs.length*r.sz)with hj|hj
  ·simp only [hj,jb]
   rcases oP j (i.toNat*r.sz)with hj1|hj1
   ·rw [cx (by omega),cx (by omega),cx (by omega),cx (by omega),cx (by omega),cx (by omega)]
   ·rcases oP j (i.toNat*r.sz+foff)with hj2|hj2
    ·rw [cx (by omega),cx (by omega),cx (by omega),cx (by omega),cm (by omega),cx (by omega),cx (by omega),cx (by omega),cx (by omega)]
     congr 1;omega
    ·rcases oP j (i.toNat*r.sz+foff+q.sz)with hj3|hj3
     ·rw [cx (by omega),cm (by omega),cx (by omega),cm (by omega),cx (by omega),cm (by omega)]
      congr 1;omega
     ·rw [cm (by omega)]
      rcases oP j (i.toNat*r.sz+r.sz)with hj4|hj4
      ·rw [cx (by omega),cm (by omega),cm (by omega),cx (by omega)]
       congr 1;omega
      ·rw [cm (by omega),cx (by omega)]
       congr 1;omega
  ·rw [cm (by omega),cm (by omega),cm (by omega)]
 obtain⟨g1,g2,g3⟩:=nk (O:=O) st.sat (f6 r U (some b) cap xs) (f6 r U (some b) cap (xs.set i.toNat (set y v))) st.own (fun k=>⟨fun h=>(rC h).symm,fun h=>by rw [h];rfl⟩) (fun k=>⟨fun h=>(rC h).symm,fun h=>by rw [h];rfl⟩) ⟨e1,e2,e3,e4.1,e4.2⟩ e6
  ⟨_,⟨_,e5,by rw [FV];exact hle,hmax,by simp only [FW,pg,Bw,Ct,HX];omega,by rw [FV];exact hcells⟩,hrc',fun k hk=>by rw [<-rC hk];exact hno'⟩ hno'
 exact k _ _ S ⟨st.ext.step g1 (fun c hc=>st.own.1.2 c (by rw [hc];rfl)),g2,g3,st.facts⟩

def pf(sz:Nat)(l:Option Nat)(cap lo n:Nat):Value:=
 match l with
 |none=> .slice none 0 0
 |some b=> .slice (some ⟨b,if cap=lo then 0 else lo*sz,none⟩) n (cap-lo)
section
variable{ty:TypeId}
def IX(h:AY mm r U l cap xs w S): ∃ad c,Y l cap xs.length= .slice ad xs.length c/\xs.length<=c/\ad=l.map (fun b=>⟨b,0,none⟩)/\(l=none->c=0/\xs=[])/\(l≠none->c=cap):=by
 obtain⟨cells,H,_⟩:=h
 cases l with
 |none=>
  have D:xs=[]:=y9 H.1
  subst D
  exact⟨none,0,rfl,f7 _,rfl,fun _=>⟨rfl,rfl⟩,fun h=>absurd rfl h⟩
 |some b=>
  obtain⟨cur,_,g2,_⟩:=H
  exact⟨_,cap,rfl,g2,rfl,fun h=>(by cases h),fun _=>rfl⟩
def wz{hi:Operand}(M:E.P.underlying t=some (.slice T))(ti:TI E.P T sz bytes agg z)(hsz:r.sz=sz)(hm:mh mm r U l cap xs∈O)(D:bk E.N G x (tV (Y l cap n)))(hhi:bk E.N G hi (Z (rI k') j))(h:dJ xs 0 j=some ys)(hn:n=xs.length:=by rfl):cH E O G ⟨dst,.slice t x none (some hi) none,ty,pos,after,g⟩ (tV (Y l cap ys.length)):=
 .of_pure fun a w S _ ho hf=>by
  subst hsz
  subst hn
  have H:a.eval x=Y l cap xs.length:=D S a hf
  obtain⟨ad,c,J,h3,h4,h5,h5'⟩:=IX (ho.mem _ hm).1
  have h6:=f8.1 (hhi S a hf)
  obtain⟨lo,m,hl,rfl,h7,h8,rfl⟩:=gI h
  have hl0:lo=0:=by omega
  subst hl0
  have hlen:((xs.take m).drop 0).length=m:=by simp;omega
  refine⟨_,?_,rfl⟩
  rw [J]at H
  have hr:(execOp a.eval ⟨dst,.slice t x none (some hi) none,ty,pos,after,g⟩).run E.P w= .ok (.value (.slice ad m c)) w:=by
   simp [execOp,Instr.sliceAt,H,h6,Instr.slice,jZ M,Instr.sliceBounds,rN (k:=k') (n:=(m:Int)) (y:=c) (by omega) (by omega),ti.sizeOf]
   cases ad<;>simp [Addr.add]
  rw [hr,hlen,h4]
  cases l with
  |none=>
   obtain⟨rfl,rfl⟩:=h5 rfl
   have:m=0:=by simpa using h8
   subst this;rfl
  |some b=>rw [h5' (by simp)];rfl
def t8{lo:Operand}{i:Int}(M:E.P.underlying t=some (.slice T))(ti:TI E.P T sz bytes agg z)(hsz:r.sz=sz)(hm:mh mm r U l cap xs∈O)(D:bk E.N G x (tV (Y l cap n)))(hlo:bk E.N G lo (Z (rI k) i))(h:dJ xs i (xs.length:Int)=some ys)(hn:n=xs.length:=by rfl):cH E O G ⟨dst,.slice t x (some lo) none none,ty,pos,after,g⟩ (tV (pf sz l cap i.toNat ys.length)):=
 .of_pure fun a w S _ ho hf=>by
  subst hsz
  subst hn
  have H:a.eval x=Y l cap xs.length:=D S a hf
  obtain⟨ad,c,J,h3,h4,h5,h5'⟩:=IX (ho.mem _ hm).1
  have h6:=f8.1 (hlo S a hf)
  obtain⟨lo',m,rfl,hm',h7,h8,rfl⟩:=gI h
  have hm2:m=xs.length:=by omega
  subst hm2
  have hlen:((xs.take xs.length).drop lo').length=xs.length-lo' :=by simp
  refine⟨_,?_,rfl⟩
  rw [J]at H
  have hr:(execOp a.eval ⟨dst,.slice t x (some lo) none none,ty,pos,after,g⟩).run E.P w= .ok (.value (.slice (if c=lo' then ad else ad.map (·.add (lo' *r.sz))) (xs.length-lo') (c-lo'))) w:=by
   simp [execOp,Instr.sliceAt,H,h6,Instr.slice,jZ M,Instr.sliceBounds,rN (k:=k) (n:=(lo' :Int)) (y:=xs.length) (by omega) (by omega),ti.sizeOf]
  rw [hr,hlen,h4]
  cases l with
  |none=>
   obtain⟨rfl,rfl⟩:=h5 rfl
   have:lo' =0:=by simpa using h7
   subst this;rfl
  |some b=>
   rw [h5' (by simp)]
   unfold pf
   simp only [Cu,Is,jA,sE]
   split<;>rfl
def BH{i:Int}(h:dJ xs lo hi=some ys)(hy:fz ys i=some y):fz xs (lo+i)=some y/\0<=lo/\0<=i:=by
 obtain⟨l,m,rfl,rfl,H,J,rfl⟩:=gI h
 obtain⟨h0,h3⟩:=kx hy
 refine⟨?_,by omega,h0⟩
 obtain⟨j,rfl⟩: ∃j:Nat,i=j:=⟨i.toNat,by omega⟩
 rw [show((l:Int)+(j:Int))=((l+j:Nat):Int)from by omega,jt]
 rw [y0,Cu]at h3
 have hlt:l+j<m:=by
  have:=(kN.1 h3).1
  simp at this;omega
 rwa [DC hlt]at h3
def Bg{e:TypeId}{i:Int}(M:E.P.underlying t=some (.slice e))(ti:TI E.P e sz bytes agg z)(hsz:r.sz=sz)(hm:mh mm r U l cap xs∈O)(hs:dJ xs lo hi=some ys)(D:bk E.N G x (tV (pf sz l cap lo.toNat ys.length)))(hi' :bk E.N G ix (Z (rI k) i))(hy:fz ys i=some y):
  cH E O G ⟨dst,.indexAddr t x ix,ty,pos,after,g⟩ (tV (dO l ((lo+i).toNat*sz+0))):=
 .of_pure fun a w S _ ho hf=>by
  subst hsz
  have H:a.eval x=pf r.sz l cap lo.toNat ys.length:=D S a hf
  have h3:a.eval ix= .int k i:=f8.1 (hi' S a hf)
  obtain⟨hxi,hl0,hi0⟩:=BH hs hy
  obtain⟨_,hx'⟩:=kx hxi
  obtain⟨b,cur,rfl,_,hle,_⟩:=r0 (ho.mem _ hm).1 hx'
  have hlt:i.toNat<ys.length:=(kN.1 (kx hy).2).1
  have hlt2:(lo+i).toNat<xs.length:=(kN.1 hx').1
  have hne: ¬(cap=lo.toNat):=by omega
  refine⟨_,?_,rfl⟩
  have hc:0<=i/\i<(ys.length:Int):=⟨hi0,by omega⟩
  have e1:(lo+i).toNat=lo.toNat+i.toNat:=by omega
  simp [execOp,H,h3,pf,hne,Instr.indexAt,asIntOf,jZ M,hc,ti.sizeOf,jA,dO,an,e1,AO]
def PA{e:TypeId}(M:E.P.underlying t=some (.slice e))(hm:mh mm r U l cap xs∈O)(hs:dJ xs lo hi=some ys)(D:bk E.N G x (tV (pf sz l cap lo.toNat ys.length))):
  cH E O G ⟨dst,.call ⟨.builtin .len,#[x],#[t]⟩,ty,pos,after,g⟩ (Z (rI .i64) (ys.length:Int)):=
 .of_pure fun a w S _ ho hf=>by
  have H:a.eval x=pf sz l cap lo.toNat ys.length:=D S a hf
  obtain⟨ad,c,h3⟩: ∃ad c,pf sz l cap lo.toNat ys.length= .slice ad ys.length c:=by
   cases l with
   |none=>
    obtain⟨_,J,_⟩:=(ho.mem _ hm).1
    have hx0:xs=[]:=y9 J.1
    subst hx0
    obtain⟨l',m,_,_,_,h8,rfl⟩:=gI hs
    exact⟨none,0,by simp [pf]⟩
   |some b=>exact⟨_,_,rfl⟩
  refine⟨.int .i64 ys.length,?_,f8.2 rfl⟩
  simp [execOp,resolve,invoke,builtin,Builtin.len_,jZ M,H,h3,goInt]
end
def WE(h:dJ xs 0 j=some ys)(k:AY false r U l cap xs w S):AY false r U l cap ys w S:=by
 obtain⟨lo,m,hl,rfl,h7,h8,rfl⟩:=gI h
 have hl0:lo=0:=by omega
 subst hl0
 obtain⟨cells,H,J,h3⟩:=k
 have hlen:((xs.take m).drop 0).length=m:=by simp;omega
 have h4:ul r S (cells.take (m*r.sz)) (xs.take m):=by
  have e:xs=xs.take m++xs.drop m:=(uN _ _).symm
  rw [e]at J
  have:=(rq J).1
  rwa [show(xs.take m).length=m from by simp;omega]at this
 refine⟨cells.take (m*r.sz),?_,by simpa using h4,fun b A=>h3 b A⟩
 rw [hlen]
 cases l with
 |none=>
  obtain⟨g1,g2⟩:=H
  exact⟨by omega,by rw [g2];simp⟩
 |some b=>
  obtain⟨cur,g1,g2,g3,g4,g5⟩:=H
  exact⟨cur,g1,by omega,g3,g4,by rw [<-g5,yL,Co (By _ h8)]⟩
def St.cut(h:dJ xs 0 j=some ys)(st:St E (f6 r U l cap xs::O) G a w S):St E (f6 r U l cap ys::O) G a w S:=
 st.own_map fun ho=>⟨⟨WE h ho.1.1,ho.1.2⟩,ho.2.1,ho.2.2⟩
def KJ(h:dJ xs 0 j=some ys)(k:RG E ops aC rest (f6 r U l cap ys::O) G):RG E ops aC rest (f6 r U l cap xs::O) G:=fun a w S st=>k a w S (st.cut h)
def AT.cut(h:dJ xs 0 j=some ys)(k:AT E aC e (f6 r U l cap ys::O) G):AT E aC e (f6 r U l cap xs::O) G:=fun a w S st=>k a w S (st.cut h)
def LG.cut(h:dJ xs 0 j=some ys)(k:LG E aC c (f6 r U l cap ys::O) G):LG E aC c (f6 r U l cap xs::O) G:=fun a w S st=>k a w S (st.cut h)
end

variable{x0 x1 x10 x11 x12 x2 x3 x4 x5 x6 x7 x8 x9:OE}
section
def we{O:List OE}(h:dA base B w S (x0::x1::x2::x3::x4::x5::O)):dA base B w S (x5::x0::x1::x2::x3::x4::O):=
 (nE h wg (fun f hf=>by simp only [gn]at hf ⊢;rcases hf with h|h|h|h|h|h<;>simp [h])).swap
def Eu(h:RG E ops aC rest (x5::x0::x1::x2::x3::x4::O) G):RG E ops aC rest (x0::x1::x2::x3::x4::x5::O) G:=fun a w S st=>h a w S (st.own_map we)
def fG(h:AT E aC e (x5::x0::x1::x2::x3::x4::O) G):AT E aC e (x0::x1::x2::x3::x4::x5::O) G:=fun a w S st=>h a w S (st.own_map we)
def vv(h:LG E aC c (x5::x0::x1::x2::x3::x4::O) G):LG E aC c (x0::x1::x2::x3::x4::x5::O) G:=fun a w S st=>h a w S (st.own_map we)
def td{O:List OE}(h:dA base B w S (x0::x1::x2::x3::x4::x5::x6::O)):dA base B w S (x6::x0::x1::x2::x3::x4::x5::O):=
 (nE h we (fun f hf=>by simp only [gn]at hf ⊢;rcases hf with h|h|h|h|h|h|h<;>simp [h])).swap
def Jt(h:RG E ops aC rest (x6::x0::x1::x2::x3::x4::x5::O) G):RG E ops aC rest (x0::x1::x2::x3::x4::x5::x6::O) G:=fun a w S st=>h a w S (st.own_map td)
def Ex(h:CG E aC c (x6::x0::x1::x2::x3::x4::x5::O) G):CG E aC c (x0::x1::x2::x3::x4::x5::x6::O) G:=fun a w S st=>h a w S (st.own_map td)
def ae(h:AT E aC e (x6::x0::x1::x2::x3::x4::x5::O) G):AT E aC e (x0::x1::x2::x3::x4::x5::x6::O) G:=fun a w S st=>h a w S (st.own_map td)
def hY(h:LG E aC c (x6::x0::x1::x2::x3::x4::x5::O) G):LG E aC c (x0::x1::x2::x3::x4::x5::x6::O) G:=fun a w S st=>h a w S (st.own_map td)
def wd{O:List OE}(h:dA base B w S (x0::x1::x2::x3::x4::x5::x6::x7::O)):dA base B w S (x7::x0::x1::x2::x3::x4::x5::x6::O):=
 (nE h td (fun f hf=>by simp only [gn]at hf ⊢;rcases hf with h|h|h|h|h|h|h|h<;>simp [h])).swap
def ta(h:RG E ops aC rest (x7::x0::x1::x2::x3::x4::x5::x6::O) G):RG E ops aC rest (x0::x1::x2::x3::x4::x5::x6::x7::O) G:=fun a w S st=>h a w S (st.own_map wd)
def dl(h:AT E aC e (x7::x0::x1::x2::x3::x4::x5::x6::O) G):AT E aC e (x0::x1::x2::x3::x4::x5::x6::x7::O) G:=fun a w S st=>h a w S (st.own_map wd)
def rz(h:LG E aC c (x7::x0::x1::x2::x3::x4::x5::x6::O) G):LG E aC c (x0::x1::x2::x3::x4::x5::x6::x7::O) G:=fun a w S st=>h a w S (st.own_map wd)
def yG{O:List OE}(h:dA base B w S (x0::x1::x2::x3::x4::x5::x6::x7::x8::O)):dA base B w S (x8::x0::x1::x2::x3::x4::x5::x6::x7::O):=
 (nE h wd (fun f hf=>by simp only [gn]at hf ⊢;rcases hf with h|h|h|h|h|h|h|h|h<;>simp [h])).swap
def Js(h:RG E ops aC rest (x8::x0::x1::x2::x3::x4::x5::x6::x7::O) G):RG E ops aC rest (x0::x1::x2::x3::x4::x5::x6::x7::x8::O) G:=fun a w S st=>h a w S (st.own_map yG)
def mu(h:AT E aC e (x8::x0::x1::x2::x3::x4::x5::x6::x7::O) G):AT E aC e (x0::x1::x2::x3::x4::x5::x6::x7::x8::O) G:=fun a w S st=>h a w S (st.own_map yG)
def yF{O:List OE}(h:dA base B w S (x0::x1::x2::x3::x4::x5::x6::x7::x8::x9::O)):dA base B w S (x9::x0::x1::x2::x3::x4::x5::x6::x7::x8::O):=
 (nE h yG (fun f hf=>by simp only [gn]at hf ⊢;rcases hf with h|h|h|h|h|h|h|h|h|h<;>simp [h])).swap
def Ez(h:AT E aC e (x9::x0::x1::x2::x3::x4::x5::x6::x7::x8::O) G):AT E aC e (x0::x1::x2::x3::x4::x5::x6::x7::x8::x9::O) G:=fun a w S st=>h a w S (st.own_map yF)
def Sb(h:LG E aC c (x9::x0::x1::x2::x3::x4::x5::x6::x7::x8::O) G):LG E aC c (x0::x1::x2::x3::x4::x5::x6::x7::x8::x9::O) G:=fun a w S st=>h a w S (st.own_map yF)
def uj{O:List OE}(h:dA base B w S (x0::x1::x2::x3::x4::x5::x6::x7::x8::x9::x10::O)):dA base B w S (x10::x0::x1::x2::x3::x4::x5::x6::x7::x8::x9::O):=
 (nE h yF (fun f hf=>by simp only [gn]at hf ⊢;rcases hf with h|h|h|h|h|h|h|h|h|h|h<;>simp [h])).swap
def OO(h:RG E ops aC rest (x10::x0::x1::x2::x3::x4::x5::x6::x7::x8::x9::O) G):RG E ops aC rest (x0::x1::x2::x3::x4::x5::x6::x7::x8::x9::x10::O) G:=fun a w S st=>h a w S (st.own_map uj)
def al(h:AT E aC e (x10::x0::x1::x2::x3::x4::x5::x6::x7::x8::x9::O) G):AT E aC e (x0::x1::x2::x3::x4::x5::x6::x7::x8::x9::x10::O) G:=fun a w S st=>h a w S (st.own_map uj)
def fF(h:LG E aC c (x10::x0::x1::x2::x3::x4::x5::x6::x7::x8::x9::O) G):LG E aC c (x0::x1::x2::x3::x4::x5::x6::x7::x8::x9::x10::O) G:=fun a w S st=>h a w S (st.own_map uj)
def ui{O:List OE}(h:dA base B w S (x0::x1::x2::x3::x4::x5::x6::x7::x8::x9::x10::x11::O)):dA base B w S (x11::x0::x1::x2::x3::x4::x5::x6::x7::x8::x9::x10::O):=
 (nE h uj (fun f hf=>by simp only [gn]at hf ⊢;rcases hf with h|h|h|h|h|h|h|h|h|h|h|h<;>simp [h])).swap
def Cg(h:RG E ops aC rest (x11::x0::x1::x2::x3::x4::x5::x6::x7::x8::x9::x10::O) G):RG E ops aC rest (x0::x1::x2::x3::x4::x5::x6::x7::x8::x9::x10::x11::O) G:=fun a w S st=>h a w S (st.own_map ui)
def cr(h:AT E aC e (x11::x0::x1::x2::x3::x4::x5::x6::x7::x8::x9::x10::O) G):AT E aC e (x0::x1::x2::x3::x4::x5::x6::x7::x8::x9::x10::x11::O) G:=fun a w S st=>h a w S (st.own_map ui)
def eY(h:LG E aC c (x11::x0::x1::x2::x3::x4::x5::x6::x7::x8::x9::x10::O) G):LG E aC c (x0::x1::x2::x3::x4::x5::x6::x7::x8::x9::x10::x11::O) G:=fun a w S st=>h a w S (st.own_map ui)
def Af{O:List OE}(h:dA base B w S (x0::x1::x2::x3::x4::x5::x6::x7::x8::x9::x10::x11::x12::O)):dA base B w S (x12::x0::x1::x2::x3::x4::x5::x6::x7::x8::x9::x10::x11::O):=
 (nE h ui (fun f hf=>by simp only [gn]at hf ⊢;rcases hf with h|h|h|h|h|h|h|h|h|h|h|h|h<;>simp [h])).swap
def Cf(h:RG E ops aC rest (x12::x0::x1::x2::x3::x4::x5::x6::x7::x8::x9::x10::x11::O) G):RG E ops aC rest (x0::x1::x2::x3::x4::x5::x6::x7::x8::x9::x10::x11::x12::O) G:=fun a w S st=>h a w S (st.own_map Af)
def bW(h:AT E aC e (x12::x0::x1::x2::x3::x4::x5::x6::x7::x8::x9::x10::x11::O) G):AT E aC e (x0::x1::x2::x3::x4::x5::x6::x7::x8::x9::x10::x11::x12::O) G:=fun a w S st=>h a w S (st.own_map Af)
end

def iE(h:xs.set i y=zs):zs.length=xs.length:=by rw [<-h,FV]
section
def kL(hl:m=n)(s:Nat)(hs:look G s=some (tV (Y l cap n)))(k:RG E ops aC rest O ((s,tV (Y l cap m))::G)):RG E ops aC rest O G:=by
 subst hl
 exact fun a w S st=>k a w S (st.cons (st.facts.at_ s _ hs))
end

def fj{o1 o2:Nat}{g1:α->β}{g2:β->γ}(H:jj r o1 q g1)(J:jj q o2 s g2)(A:Nat.ble (o2+s.sz) q.sz=true:=by rfl):jj r (o1+o2) s (fun x=>g2 (g1 x)):=fun S cs x h=>by
 have h3:=J S _ _ (H S cs x h)
 have hb' :=uq A
 rwa [Cs,yL,xR,Co (by omega)]at h3
def gc{o1 o2:Nat}{g1:α->β}{u1:α->β->α}{u2:β->γ->β}(H:jj r o1 q g1)(k1:eP r o1 q u1)(k2:eP q o2 s u2)(A:Nat.ble (o2+s.sz) q.sz=true:=by rfl)(hc:Nat.ble (o1+q.sz) r.sz=true:=by rfl):
  eP r (o1+o2) s (fun x y=>u1 x (u2 (g1 x) y)):=fun S cs x ds y h hy=>by
 have hb' :=uq A
 have hc' :=uq hc
 have hl:=r.len h
 have h3:=k1 S cs x _ _ h (k2 S _ _ ds y (H S cs x h) hy)
 have e:cs.take (o1+o2)++ds++cs.drop (o1+o2+s.sz)=cs.take o1++(((cs.drop o1).take q.sz).take o2++ds++((cs.drop o1).take q.sz).drop (o2+s.sz))++cs.drop (o1+q.sz):=by
  rw [yL,Co (by omega),Cs,xR,List.take_add,show o1+(o2+s.sz)=o1+o2+s.sz from by omega]
  simp only [gF]
  congr 3
  have e2:cs.drop (o1+q.sz)=(cs.drop (o1+o2+s.sz)).drop (q.sz-(o2+s.sz)):=by rw [xR];congr 1;omega
  rw [e2,uN]
 rw [e];exact h3

def ea(P:Program)(f:FuncId)(ts:List Ty)(O1:List OE){ι:Type}(t:ι->Ty)(O2:ι->List OE):Prop:=
 ∀w S vs,mU w S->AZ S ts vs->dA 0 wC w S O1->Calls P f vs.toArray w fun en w' => ∃i v S',en= .returned v/\(t i).p S' v/\lq (fun k=> ∃f∈O1,f.fp k) w S w' S' /\mU w' S' /\dA 0 wC w' S' (O2 i)/\ ∀k,(∃f∈O2 i,f.fp k)->(∃f∈O1,f.fp k)\/w.heap.size<=k
def Wu(E:En)(O1:List OE){ι:Type}(t:ι->Ty)(O2:ι->List OE):Ending->World->Prop:=fun en w' =>
 ∃i v S',en= .returned v/\(t i).p S' v/\lq E.B E.w0 E.S0 w' S' /\mU w' S' /\dA 0 wC w' S' (O2 i)/\ ∀k,(∃f∈O2 i,f.fp k)->(∃f∈O1,f.fp k)\/E.w0.heap.size<=k
def PT(O1:List OE):Nat->Prop:=fun k=> ∃f∈O1,f.fp k
def ea.of{t:ι->Ty}(hf:P.funcs[f]? =some fn)(A:fn.body=some c)(hN:fn.ntmps=N)(hn:Nat.ble ts.length N=true)(h: ∀w0 S0,CG ⟨P,⟨N,[]⟩,PT O1,w0,S0,none⟩ (bodyPost P fn (Wu ⟨P,⟨N,[]⟩,PT O1,w0,S0,none⟩ O1 t O2)) c O1 (Bk 0 ts)):ea P f ts O1 t O2:=by
 subst hN
 intro w S vs hs hv ho
 exact yB.1 (callsIn_of_wp (F:=fw none) (n:=0) hf A trivial (h w S _ w S ⟨lq.refl _ _ _,hs,AM ho fun f hf k hk=> .inr ⟨f,hf,hk⟩,B0 hv _ (uq hn)⟩))
def Qn{t:ι->Ty}{v:Value}(st:St E O G a w S)(hB:E.B=PT O1)(i:ι)(hO:O=O2 i)(hv:(t i).p S v):Wu E O1 t O2 (.returned v) w:=by
 subst hO
 refine⟨i,v,S,rfl,hv,st.ext,st.sat,st.own.weak,fun k ⟨f,hf,hk⟩=>?_⟩
 rcases(dA.mem st.own f hf).2 k hk with h|h
 ·exact .inr h
 ·rw [hB]at h;exact .inl h
section
variable{t:ι->Ty}
def eu{k:Nat}{u:Ty}(hr:fn.results= #[.tmp k])(i:ι)(hO:O=O2 i)(hk:look G k=some u)(hu: ∀S v,u.p S v->(t i).p S v):
  AT ⟨P,⟨N,[]⟩,PT O1,w0,S0,none⟩ (bodyPost P fn (Wu ⟨P,⟨N,[]⟩,PT O1,w0,S0,none⟩ O1 t O2)) .ret O G:=fun _ _ S st=>
 ⟨st.facts.defers,_,uz P fn k hr _ _,Qn st rfl i hO (hu S _ (st.facts.at_ k u hk))⟩
end
def dA.join: ∀{O1 O2:List OE},dA base B w S O1->dA base B w S O2->(∀e∈O1,∀f∈O2,e.apart f)->dA base B w S (O1++O2)
 |[],_,_,h,_=>h
 |e::O1,O2,⟨H,J,h3⟩,h,ha=>⟨H,fun f hf=>(Bv.1 hf).elim (J f) (ha e (oh ..) f),dA.join h3 h fun g V f hf=>ha g (oO _ V) f hf⟩
section
variable{ty:TypeId}
def St.turn{Or O2:List OE}(st:St E (O1++Or) G a w S)(D:lq (fun k=> ∃f∈O1,f.fp k) w S w' S')(hs:mU w' S')(ho:dA 0 wC w' S' O2)(hn: ∀k,(∃f∈O2,f.fp k)->(∃f∈O1,f.fp k)\/w.heap.size<=k):St E (O2++Or) G a w' S' :=by
 obtain⟨H,J,h3⟩:=ry st.own
 have hbl:=st.base_le
 refine⟨st.ext.step D (fun b ⟨f,hf,A⟩=>(dA.mem H f hf).2 b A),hs,dA.join (AM ho fun f hf k hk=>?_) (J.ext D fun f hf b A ⟨g,V,hgb⟩=>h3 g V f hf b hgb A) (fun e he f hf b heb hfb=>?_),st.facts.mono D.keep⟩
 ·rcases hn k ⟨f,hf,hk⟩with⟨g,V,hgk⟩|h
  ·exact(dA.mem H g V).2 k hgk
  ·exact .inl (oj hbl h)
 ·rcases hn b ⟨e,he,heb⟩with⟨g,V,hgb⟩|h
  ·exact h3 g V f hf b hgb hfb
  ·have:=f.here (dA.mem J f hf).1 b hfb
   omega
def Du{xs:List Operand}(O1 Or:List OE){t:ι->Ty}(hO:O=O1++Or)(hc:ak E.P f=true)(hs:ea E.P f ts O1 t O2)(D:kD E.N G xs ts)(hd:Nat.blt ah E.N.n=true)(k: ∀i,RG E ops aC rest (O2 i++Or) ((ah,t i)::G)):
  RG E ops aC (⟨some ah,.call ⟨.value (.func f),xs.toArray,ats⟩,ty,pos,after,none⟩::rest) O G:= .of rfl fun a w S st=>by
 subst hO
 have hr:(execOp a.eval ⟨some ah,.call ⟨.value (.func f),xs.toArray,ats⟩,ty,pos,after,none⟩).run E.P w= .ok (.enter f (xs.map a.eval).toArray) w:=by
  simp [execOp,resolve,Act.eval,Deferred.ofValue,invoke,kf hc]
 refine⟨fun c h=>(by cases h),?_⟩
 rw [hr]
 refine(hs w S _ st.sat (D.tys st.facts) (ry st.own).1.weak).mono fun en w' ⟨i,v,S',he,hv,H,J,h3,h4⟩=>⟨_,he,?_⟩;exact k i _ _ S' ((st.turn H J h3 h4).put hd hv)
end

structure OI where
 h:Nat->Option Nat×Nat:=fun _=>(none,0)
 os:List (Option Nat×Nat):=[]
 fp:Nat->Prop:=wC
 v:Value:=undef
 ng:Nat->(Option Nat×Nat)×(Nat->Option Nat×Nat):=fun _=>((none,0),fun _=>(none,0))
 oss:Nat->List (Option Nat×Nat):=fun _=>[]
def oD:OI:={}
def oi(l:Option Nat)(c:Nat):OI:={h:=fun _=>(l,c)}
def EffOK(E:En)(O:List OE)(need:mM)(o:Oper)(post:OI->List OE)(t:OI->Ty):Prop:=
 ∀a w S,mU w S->dA E.base E.B w S O->dm E.N S a need->E.base<=w.heap.size->
  LN E.P o a w (fun a' w' => ∃v S' x,a' =a.put o.dst v/\lq (PT O) w S w' S' /\mU w' S' /\dA E.base E.B w' S' (post x)/\(t x).p S' v)
variable{post:OI->List OE}
section
variable{ty:TypeId}
def Ov{t' :TypeId}{y:Operand}{u:OI->Ty}(ti:TI E.P T sz bytes agg z)(hsz:r.sz=sz)(hz:Nat.beq z.length sz=true)(h0:Nat.blt 0 sz=true)(h128:Nat.ble bytes 2048=true)(M:E.P.underlying t=some (.slice T))(D:bk E.N G x (tV (Y l cap n)))(hy: ∀a w S,mU w S->dm E.N S a G-> ∃news,Src E.P r.sz t' (a.eval y) ys.length news w/\ul r S news ys)(happ:oT xs ys=some zs)(hu: ∀l' cap' w0 S,(mh mm r T l' cap' zs).p w0 S->(u (oi l' cap')).p S (Y l' cap' zs.length))(hn:n=xs.length):
  EffOK E (mh mm r T l cap xs::O) G ⟨some ah,.call ⟨.builtin .append,#[x,y],#[t,t']⟩,ty,pos,after,g⟩ (fun i=>mh mm r T (i.h 0).1 (i.h 0).2 zs::O) u:=fun a w S hs ho hf A=>by
 subst hn
 have H:a.eval x=Y l cap xs.length:=D S a hf
 obtain⟨news,J,h3⟩:=hy a w S hs hf
 obtain⟨l',cap',w',S',hr,hext,hsat,hh,hnew⟩:=zC (ty:=ty) ti hsz hz h0 h128 M hs ho.1 A J h3 happ
 have hrun:(execOp a.eval ⟨some ah,.call ⟨.builtin .append,#[x,y],#[t,t']⟩,ty,pos,after,g⟩).run E.P w= .ok (.value (Y l' cap' zs.length)) w' :=by
  simp [execOp,resolve,invoke,builtin,H,hr]
 refine⟨fun c h=>(by cases h),?_⟩
 rw [hrun]
 refine⟨_,S',oi l' cap',rfl,hext.more fun b A=>⟨_,oh ..,A⟩,hsat,⟨hh,fun f hf b A hfb=>?_,ho.2.2.ext hext fun f hf b A hbl=>ho.2.1 f hf b hbl A⟩,hu l' cap' w' S' hh.1⟩
 rcases hnew b A with h|h
 ·exact ho.2.1 f hf b h hfb
 ·have:=f.here (dA.mem ho.2.2 f hf).1 b hfb
  omega
def iq{t' :TypeId}{y:Operand}(ti:TI E.P T sz bytes agg z)(hsz:r.sz=sz)(hz:Nat.beq z.length sz=true)(h0:Nat.blt 0 sz=true)(h128:Nat.ble bytes 2048=true)(M:E.P.underlying t=some (.slice T))(ht' :t' =t)(D:bk E.N G x (tO r l cap xs))(hy:bk E.N G y (Z (eM r) ys))(happ:oT xs ys=some zs):
  EffOK E (K r T l cap xs::O) G ⟨some ah,.call ⟨.builtin .append,#[x,y],#[t,t']⟩,ty,pos,after,g⟩ (fun i=>K r T (i.h 0).1 (i.h 0).2 zs::O) (fun i=>tO r (i.h 0).1 (i.h 0).2 zs):=by
 subst ht'
 exact Ov ti hsz hz h0 h128 M (tR D) (fun a w S hs hf=>zt M hs (hy S a hf)) happ (fun _ _ _ _ h=>⟨rfl,nc h⟩) rfl
def RU{xs:List Operand}{u:OI->Ty}(hc:ak E.P f=true)(hs:jB E.P f ts mm r T ys)(D:kD E.N G xs ts)(hu: ∀l cap w0 S,(mh mm r T l cap ys).p w0 S->(u (oi l cap)).p S (Y l cap ys.length)):
  EffOK E O G ⟨some ah,.call ⟨.value (.func f),xs.toArray,ats⟩,ty,pos,after,g⟩ (fun i=>mh mm r T (i.h 0).1 (i.h 0).2 ys::O) u:=fun a w S hsat ho hf A=>by
 have hr:(execOp a.eval ⟨some ah,.call ⟨.value (.func f),xs.toArray,ats⟩,ty,pos,after,g⟩).run E.P w= .ok (.enter f (xs.map a.eval).toArray) w:=by
  simp [execOp,resolve,Act.eval,Deferred.ofValue,invoke,kf hc]
 refine⟨fun c h=>(by cases h),?_⟩
 rw [hr]
 exact(hs w S _ hsat (D.tys hf)).mono fun e w' ⟨l,cap,S',he,H,J,h3⟩=>⟨_,he,_,S',oi l cap,rfl,H.more fun _ A=>A.elim,J,u7 ho H h3.1 (fun b A=>(h3.2 b A).resolve_right id) A,hu l cap w' S' h3.1⟩
def dA.turn{Or O2:List OE}(h:dA base B w S (O1++Or))(hbl:base<=w.heap.size)(D:lq (PT O1) w S w' S')(ho:dA 0 wC w' S' O2)(hn: ∀k,(∃f∈O2,f.fp k)->(∃f∈O1,f.fp k)\/w.heap.size<=k):dA base B w' S' (O2++Or):=by
 obtain⟨H,J,h3⟩:=ry h
 refine dA.join (AM ho fun f hf k hk=>?_) (J.ext D fun f hf b A ⟨g,V,hgb⟩=>h3 g V f hf b hgb A) (fun e he f hf b heb hfb=>?_)
 ·rcases hn k ⟨f,hf,hk⟩with⟨g,V,hgk⟩|h
  ·exact(dA.mem H g V).2 k hgk
  ·exact .inl (oj hbl h)
 ·rcases hn b ⟨e,he,heb⟩with⟨g,V,hgb⟩|h
  ·exact h3 g V f hf b hgb hfb
  ·have:=f.here (dA.mem J f hf).1 b hfb
   omega
def dY{xs:List Operand}(O1 Or:List OE){t:OI->Ty}{O2:OI->List OE}(hO:O=O1++Or)(hc:ak E.P f=true)(hs:ea E.P f ts O1 t O2)(D:kD E.N G xs ts)(hpost: ∀i,O2 i++Or=post i):
  EffOK E O G ⟨some ah,.call ⟨.value (.func f),xs.toArray,ats⟩,ty,pos,after,g⟩ post t:=fun a w S hsat ho hf A=>by
 subst hO
 obtain rfl:(fun i=>O2 i++Or)=post:=funext hpost
 have hr:(execOp a.eval ⟨some ah,.call ⟨.value (.func f),xs.toArray,ats⟩,ty,pos,after,g⟩).run E.P w= .ok (.enter f (xs.map a.eval).toArray) w:=by
  simp [execOp,resolve,Act.eval,Deferred.ofValue,invoke,kf hc]
 refine⟨fun c h=>(by cases h),?_⟩
 rw [hr]
 exact(hs w S _ hsat (D.tys hf) (ry ho).1.weak).mono fun en w' ⟨i,v,S',he,hv,H,J,h3,h4⟩=>⟨_,he,v,S',i,rfl,H.more fun b ⟨f,hf,A⟩=>⟨f,FQ _ hf,A⟩,J,dA.turn ho A H h3 h4,hv⟩
def jf{op:Op}{t:OI->Ty}(h:EffOK E O G ⟨some ah,op,ty,pos,after,none⟩ post t)(hd:Nat.blt ah E.N.n=true)(k: ∀x:OI,RG E ops aC rest (post x) ((ah,t x)::G)):RG E ops aC (⟨some ah,op,ty,pos,after,none⟩::rest) O G:= .of rfl fun a w S st=>
 pZ (fun a' w' ⟨v,S',x,ha,D,hs,ho,hv⟩=>by
  subst ha
  exact k x _ _ S' ⟨st.ext.step D fun b ⟨f,hf,A⟩=>(dA.mem st.own f hf).2 b A,hs,ho,(st.facts.mono D.keep).put hd hv⟩) (h a w S st.sat st.own st.facts st.base_le)
end

def upd(σ:Nat->OI)(k:Nat)(x:OI):Nat->OI:=fun j=>bif Nat.beq j k then x else σ j
def JI(σ:Nat->OI){k j:Nat}(x:OI)(h:j≠k):upd σ k x j=σ j:=by
 have:Nat.beq j k=false:=by
  cases A:Nat.beq j k with
  |false=>rfl
  |true=>exact absurd (qZ A) h
 simp [upd,this]
structure NE where
 slot:Nat
 ty:(Nat->OI)->Ty
 src:Option Nat
def abW(G:mM)(ts:List (OI->Ty))(n:NE):Prop:=
 match n.src with
 |some j=> ∀σ,(ts[j]?).map (fun f=>f (σ j))=some (n.ty σ)
 |none=> ∀σ,look G n.slot=some (n.ty σ)
def QE(G:mM)(ts:List (OI->Ty)):List NE->Prop
 |[]=>True
 |n::l=>abW G ts n/\QE G ts l
def QE.mem{ts:List (OI->Ty)}: ∀{l:List NE},QE G ts l-> ∀n∈l,abW G ts n
 |_::_,⟨h,_⟩,_,.head _=>h
 |_::_,⟨_,h⟩,_,.tail _ hm=>QE.mem h _ hm
def iC(E:En)(ops:Array Oper)(O:List OE)(need:mM)(o:Oper)(post:OI->List OE)(t:OI->Ty):Prop:=
 ∀a w S,mU w S->dA E.base E.B w S O->dm E.N S a need->E.base<=w.heap.size->
  if Region.wanted o (yielded ops a.tmps)then LN E.P o a w (fun a' w' => ∃v S' x,a' =a.put o.dst v/\lq (PT O) w S w' S' /\mU w' S' /\dA E.base E.B w' S' (post x)/\(t x).p S' v)
  else∃x,dA E.base E.B w S (post x)/\(t x).p S undef
def bL{need:mM}{t:OI->Ty}(V:o.guard=none)(h:EffOK E O need o post t):iC E ops O need o post t:=fun a w S hs ho hf A=>by
 have:Region.wanted o (yielded ops a.tmps)=true:=by unfold Region.wanted;rw [V]
 rw [this,cx rfl]
 exact h a w S hs ho hf A
def ii(es:List Bool)(i:Nat):Nat:=(es.take i).countP (· ==true)
def OF(L:List Oper)(es:List Bool):Bool:=(List.range es.length).all fun i=>(List.range i).all fun j=> !((es[i]?).getD false&&(es[j]?).getD false)||o0 L L.length i j
structure DJE(E:En)(G:mM)(l:List Oper)(ts:List (OI->Ty))(Om:Nat->(Nat->OI)->List OE)(es:List Bool)(done:Array Bool)(a:Act)(w:World)(S:SH)(σ:Nat->OI)(c:Nat):Prop where
 ext:lq E.B E.w0 E.S0 w S
 sat:mU w S
 own:dA E.base E.B w S (Om c σ)
 size:a.tmps.size=E.N.n
 defers:a.defers=E.N.ds
 dsz:done.size=l.length
 down: ∀j o,l[j]? =some o->done.getD j false=true-> ∀e∈o.after,Region.binds .any e=true->done.getD e.on false=true
 old: ∀k t,look G k=some t->(∀j o,l[j]? =some o->done.getD j false=true->o.dst≠some k)->t.p S (a.tmps.getD k undef)
 new: ∀j o ah f,l[j]? =some o->done.getD j false=true->o.dst=some ah->ts[j]? =some f->(f (σ j)).p S (a.tmps.getD ah undef)
 chain: ∀k,es[k]? =some true->(done.getD k false=true↔ii es k<c)
variable{es:List Bool}
def HH: ∀{i j:Nat},i<j->es[i]? =some true->ii es i<ii es j:=by
 induction es with
 |nil=>intro i j _ h;simp at h
 |cons e es ih=>
  intro i j hij h
  cases j with
  |zero=>omega
  |succ j=>
   cases i with
   |zero=>simp at h;subst h;simp [ii]
   |succ i=>
    have:=ih (i:=i) (j:=j) (by omega) (by simpa using h)
    cases e<;>simp [ii]at this ⊢ <;>omega
def yE: ∀{c k:Nat},c<ii es k-> ∃i,i<k/\es[i]? =some true/\ii es i=c:=by
 induction es with
 |nil=>intro c k h;simp [ii]at h
 |cons e es ih=>
  intro c k h
  cases k with
  |zero=>simp [ii]at h
  |succ k=>
   cases e with
   |false=>
    obtain⟨i,H,J,h3⟩:=ih (c:=c) (k:=k) (by simpa [ii] using h)
    exact⟨i+1,by omega,by simpa using J,by simpa [ii] using h3⟩
   |true=>
    cases c with
    |zero=>exact⟨0,by omega,rfl,by simp [ii]⟩
    |succ c=>
     obtain⟨i,H,J,h3⟩:=ih (c:=c) (k:=k) (by simp [ii]at h ⊢;omega)
     exact⟨i+1,by omega,by simpa using J,by simp [ii]at h3 ⊢;omega⟩
section
variable{ts:List (OI->Ty)}{Om:Nat->(Nat->OI)->List OE}
end

section
variable{ty:TypeId}
end

def IV{α:Type}{r:Rp α}{x:α}{z:List Value}(D: ∀S,r.rc S z x)(S:SH): ∀n:Nat,ul r S (List.replicate n z).flatten (List.replicate n x)
 |0=>rfl
 |n+1=>⟨z,_,by rw [List.replicate_succ,List.flatten_cons],D S,IV D S n⟩
def GK(z:List Value):(List.range z.length).map (fun i=>z[i%z.length]?.getD default)=z:=by
 apply KP
 intro k
 rcases oP k z.length with h|h
 ·rw [Iw,List.getElem?_range h]
  simp [Nat.mod_eq_of_lt h,h]
 ·rw [IA (by simpa using h),IA h]
def DF(z:List Value)(n:Nat):(Builtin.zeroCells z.toArray n).toList=(List.replicate n z).flatten:=by
 unfold Builtin.zeroCells
 simp
 induction n with
 |zero=>simp
 |succ n ih=>
  rw [List.replicate_succ,List.flatten_cons,<-ih,Nat.succ_mul,Nat.add_comm,List.range_add,Iu,GK,List.map_map]
  congr 1
  apply List.map_congr_left
  intro i _
  simp
section
variable{ty:TypeId}
def flat_len(h:z.length=sz)(n:Nat):(List.replicate n z).flatten.length=n*sz:=by
 simp [h]
def R9{x:α}{y:Operand}(ti:TI E.P T sz bytes agg z)(hsz:r.sz=sz)(hz:Nat.beq z.length sz=true)(M:E.P.underlying t=some (.slice T))(D: ∀S,r.rc S z x)(hone:z.all (·.oneCell')=true)(hs:dJ xs lo (xs.length:Int)=some ys)(hy:bk E.N G y (tV (pf sz l cap lo.toNat ys.length)))(hzs:xs.take lo.toNat++List.replicate ys.length x=zs)(k:RG E ops aC rest (f6 r T l cap zs::O) G):
  RG E ops aC (⟨none,.call ⟨.builtin .clear,#[y],#[t]⟩,ty,pos,after,none⟩::rest) (f6 r T l cap xs::O) G:= .of rfl fun a w S st=>by
 subst hsz
 subst hzs
 obtain⟨i,zv,hi,H,J,h3,h4⟩:=ti.get
 have hyv:a.eval y=pf r.sz l cap lo.toNat ys.length:=hy S a st.facts
 have hz2:z.length=r.sz:=qZ hz
 obtain⟨lo',m,rfl,hm,h5,h6,rfl⟩:=gI hs
 have hm' :m=xs.length:=by omega
 subst hm'
 rw [A3]at hyv k
 rw [Cu]at hyv k
 by_cases hnil:xs.drop lo' =[]
 ·have hlo:xs.length<=lo' :=KT.1 hnil
  rw [hnil]at hyv k
  have e1:xs.take lo' ++List.replicate ([]:List α).length x=xs:=by simp [rF hlo]
  rw [e1]at k
  have hrun:(execOp a.eval ⟨none,.call ⟨.builtin .clear,#[y],#[t]⟩,ty,pos,after,none⟩).run E.P w= .ok (.value (.tuple #[])) w:=by
   cases l<;>simp [execOp,resolve,invoke,builtin,Builtin.clear_,jZ M,hyv,pf]
  refine⟨fun c h=>(by cases h),?_⟩
  rw [hrun]
  exact k _ _ S st
 ·obtain⟨⟨cells,hraw,hrc,hno⟩,hbase⟩:=st.own.1
  have hlt:lo' <xs.length:=by
   rcases oP lo' xs.length with h|h
   ·exact h
   ·exact absurd (O4 h) hnil
  cases l with
  |none=>have:=hraw.1;omega
  |some b=>
   obtain⟨cur,g1,g2,g3,g4,g5⟩:=hraw
   have hno' :S b=none:=hno b rfl
   have hne: ¬(cap=lo'):=by omega
   have hld:(xs.drop lo').length=xs.length-lo' :=by simp
   have hfl:=flat_len hz2 (xs.length-lo')
   have hones: ∀u∈(List.replicate (xs.length-lo') z).flatten,u.oneCell' =true:=by
    intro u hu
    obtain⟨q,hq,hu⟩:=List.mem_flatten.1 hu
    rw [(List.mem_replicate.1 hq).2]at hu
    exact ph.1 hone u hu
   have hmul:xs.length*r.sz<=cur.size:=by rw [g4];exact By _ g2
   have hfit:lo' *r.sz+(xs.length-lo')*r.sz=xs.length*r.sz:=by rw [<-AO];congr 1;omega
   have hst:=run_storeCells_at E.P b (lo' *r.sz) T (List.replicate (xs.length-lo') z).flatten 0 cur w g1 (by omega) hones
   simp only [FT]at hst
   have hrun:(execOp a.eval ⟨none,.call ⟨.builtin .clear,#[y],#[t]⟩,ty,pos,after,none⟩).run E.P w= .ok (.value (.tuple #[])) (w.setRow b (cur.toList.take (lo' *r.sz)++(List.replicate (xs.length-lo') z).flatten++cur.toList.drop (lo' *r.sz+(List.replicate (xs.length-lo') z).flatten.length)).toArray):=by
    have e1: ∃q,xs.length-lo' =q+1:=⟨xs.length-lo' -1,by omega⟩
    obtain⟨q,hq⟩:=e1
    have e2:a.eval y= .slice (some ⟨b,lo' *r.sz,none⟩) (q+1) (cap-lo'):=by rw [hyv,hld,hq];simp [pf,hne]
    rw [hq]at hst ⊢
    simp [execOp,resolve,invoke,builtin,Builtin.clear_,jZ M,e2,zeroValue,typeInfo,hi,h3,h4,DF,hst]
   refine⟨fun c h=>(by cases h),?_⟩
   rw [hrun]
   have hset:=setRow_heap w b cur (cur.toList.take (lo' *r.sz)++(List.replicate (xs.length-lo') z).flatten++cur.toList.drop (lo' *r.sz+(List.replicate (xs.length-lo') z).flatten.length)).toArray T _ g1
   have hl2:(xs.take lo' ++List.replicate (xs.drop lo').length x).length=xs.length:=by simp;omega
   have hsp:ul r S (cells.take (lo' *r.sz)) (xs.take lo'):=by
    have e:xs=xs.take lo' ++xs.drop lo' :=(uN _ _).symm
    rw [e]at hrc
    have:=(rq hrc).1
    rwa [show(xs.take lo').length=lo' from by simp;omega]at this
   have hcl:((cur.toList.take (lo' *r.sz)++(List.replicate (xs.length-lo') z).flatten++cur.toList.drop (lo' *r.sz+(List.replicate (xs.length-lo') z).flatten.length)).toArray).toList.take ((xs.take lo' ++List.replicate (xs.drop lo').length x).length*r.sz)=cells.take (lo' *r.sz)++(List.replicate (xs.length-lo') z).flatten:=by
    rw [hl2,<-g5,yL,Co (By _ (by omega))]
    have hlen1:(cur.toList.take (lo' *r.sz)++(List.replicate (xs.length-lo') z).flatten).length=xs.length*r.sz:=by
     rw [pg,hfl,Bw,HX,Co (by omega)];exact hfit
    rw [<-hlen1,List.take_left]
   obtain⟨q1,q2,q3⟩:=nk (O:=O) st.sat (f6 r T (some b) cap xs) (f6 r T (some b) cap (xs.take lo' ++List.replicate (xs.drop lo').length x)) st.own (fun k=>⟨fun h=>(rC h).symm,fun h=>by rw [h];rfl⟩) (fun k=>⟨fun h=>(rC h).symm,fun h=>by rw [h];rfl⟩)
    (w' :=w.setRow b (cur.toList.take (lo' *r.sz)++(List.replicate (xs.length-lo') z).flatten++cur.toList.drop (lo' *r.sz+(List.replicate (xs.length-lo') z).flatten.length)).toArray) ⟨rfl,rfl,rfl,by simp [World.setRow],f7 _⟩ (fun k hk=>setRow_other w b k _ hk)
    ⟨cells.take (lo' *r.sz)++(List.replicate (xs.length-lo') z).flatten,⟨_,hset,by rw [hl2];exact g2,g3,by simp only [FW,pg,Bw,Ct,HX];omega,hcl⟩,by rw [hld];exact vO hsp (IV D S _),fun k hk=>by rw [<-rC hk];exact hno'⟩ hno'
   ·exact k _ _ S ⟨st.ext.step q1 (fun c hc=>hbase c (by rw [hc];rfl)),q2,q3,st.facts⟩
end

def qD{α:Type}(r:Rp α)(n:Nat):Rp (List α) where
 sz:=n*r.sz
 agg:=true
 rc:=fun S cs xs=>xs.length=n/\ul r S cs xs
 mono:=fun h ⟨H,J⟩=>⟨H,tZ h J⟩
 len:=fun⟨H,J⟩=>by rw [mC J,H]
 one:=fun⟨_,J⟩=>CQ J
 sc:=fun h=>by cases h
section
section
variable{ty:TypeId}
def qF{e:TypeId}{i:Int}(M:E.P.underlying t=some (.array n e))(ti:TI E.P e sz bytes agg z)(hm:bx (qD r n) T b xs∈O)(D:bk E.N G x (tV (an b 0)))(hi:bk E.N G ix (Z (rI k) i))(hy:fz xs i=some y):
  cH E O G ⟨dst,.indexAddr t x ix,ty,pos,after,g⟩ (tV (an b (i.toNat*sz))):=
 .of_pure fun a w S _ ho hf=>by
  have H:a.eval x=an b 0:=D S a hf
  have h5:a.eval ix= .int k i:=f8.1 (hi S a hf)
  obtain⟨⟨_,c,_,h4,_⟩,_⟩:=ho.mem _ hm
  obtain⟨h0,hy'⟩:=kx hy
  have hlt:i.toNat<xs.length:=(kN.1 hy').1
  have hc:0<=i/\i<(n:Int):=⟨h0,by omega⟩
  refine⟨_,?_,rfl⟩
  simp [execOp,H,h5,an,Instr.indexAt,asIntOf,jZ M,Instr.sureAddr,hc,ti.sizeOf,jA]
end
def Vi{i:Int}(hy:fz xs i=some y){cs:List Value}(h:(qD r n).rc S cs xs):r.rc S ((cs.drop (i.toNat*r.sz)).take r.sz) y:=CS h.2 (kx hy).2
def GN{i:Int}{p:Operand}{ty:TypeId}(ti:TI E.P U sz bytes agg z)(hsz:r.sz=sz)(hag:r.agg=agg)(hm:bx (qD r n) T b xs∈O)(hy:fz xs i=some y)(hp:bk E.N G p (tV (an b (i.toNat*r.sz)))):cH E O G ⟨dst,.load U p,ty,pos,after,g⟩ (Z r y):=
 .of_pure fun a w S _ ho hf=>by
  have H:a.eval p=an b (i.toNat*r.sz):=hp S a hf
  obtain⟨⟨_,cur,h5,h6⟩,_⟩:=ho.mem _ hm
  have h7:=Vi hy h6
  refine⟨_,?_,_,rfl,h7⟩
  simp [execOp,H,an,Instr.loadAt,Instr.sureAddr,lR ti h5 hsz hag h7]
def R7{v:α}{i:Int}{p:Operand}{ty:TypeId}(ti:TI E.P U sz bytes agg z)(hsz:r.sz=sz)(hy:fz xs i=some y)(hz:xs.set i.toNat v=zs)(hp:bk E.N G p (tV (an b (i.toNat*r.sz))))(hv:bk E.N G x (Z r v))(k:RG E ops aC rest (bx (qD r n) T b zs::O) G):RG E ops aC (⟨none,.store U p x,ty,pos,after,none⟩::rest) (bx (qD r n) T b xs::O) G:= .of rfl fun a w S st=>by
 subst hz
 have H:a.eval p=an b (i.toNat*r.sz):=hp S a st.facts
 obtain⟨ds,J,h3⟩:=hv S a st.facts
 obtain⟨⟨hno,cur,h5,h6⟩,_⟩:=st.own.1
 obtain⟨h0,hy'⟩:=kx hy
 have hlt:i.toNat<xs.length:=(kN.1 hy').1
 have hl:=mC h6.2
 simp only [HX]at hl
 have hmul:i.toNat*r.sz+r.sz<=xs.length*r.sz:=by rw [<-Nat.succ_mul];exact By _ hlt
 obtain⟨w',hr,e1,e2,e3,e4,e5,e6⟩:=jO ti hsz h3 h5 (off:=i.toNat*r.sz) (by omega)
 have hrun:(execOp a.eval ⟨none,.store U p x,ty,pos,after,none⟩).run E.P w= .ok .skip w' :=by
  simp [execOp,H,J,Instr.storeAt,an,Instr.sureAddr,hr]
 refine⟨fun c h=>(by cases h),?_⟩
 rw [hrun]
 obtain⟨g1,g2,g3⟩:=nk (O:=O) st.sat (bx (qD r n) T b xs) (bx (qD r n) T b (xs.set i.toNat v)) st.own (fun _=>vz) (fun _=>vz) ⟨e1,e2,e3,e4.1,e4.2⟩ e6 ⟨hno,_,e5,by rw [FV];exact h6.1,CP h3 h6.2 hlt⟩ hno
 exact k _ _ S ⟨st.ext.step g1 (fun c hc=>st.own.1.2 c hc),g2,g3,st.facts⟩
end
def Bf{α:Type}{r:Rp α}{c:Value}{x:α}(h: ∀S,r.rc S [c] x)(S:SH): ∀n,ul r S (List.replicate n c) (List.replicate n x)
 |0=>rfl
 |n+1=>⟨[c],_,rfl,h S,Bf h S n⟩
def HG{c:Value}{x:α}(n:Nat)(h: ∀S,r.rc S [c] x): ∀S,(qD r n).rc S (List.replicate n c) (List.replicate n x):=fun S=>⟨List.length_replicate,Bf h S n⟩
def Yp(n:Nat):Option Unit:=if n<=68719476736 then some ()else none
def Jm{x:α}(h:dJ xs lo (xs.length:Int)=some ys)(hz:xs.take lo.toNat++List.replicate ys.length x=zs):zs.length=xs.length:=by
 obtain⟨l,m,rfl,hm,H,J,rfl⟩:=gI h
 have hm' :m=xs.length:=by omega
 subst hm'
 rw [<-hz]
 simp
 omega

def tC(n:FuncId)(cts:List Ty):Ty where
 p:=fun S v=> ∃cap:List Value,v= .func (.func n) #[] cap.toArray/\AZ S cts cap
 mono:=fun h ⟨cap,e,k⟩=>⟨cap,e,AZ.mono h k⟩
section
section
variable{ty:TypeId}
def SZ{fid:FuncId}{caps:List Operand}{cts:List Ty}(hcap:kD E.N G caps cts):cH E O G ⟨dst,.makeFunc (.func fid) #[] caps.toArray,ty,pos,after,g⟩ (tC fid cts):=
 .of_pure fun a w S _ _ hf=>⟨.func (.func fid) #[] (caps.map a.eval).toArray,by simp [execOp,Instr.makeFunc],_,rfl,hcap.tys hf⟩
end
def RV{n:FuncId}{cts:List Ty}{ty:TypeId}{fo:Operand}{xs:List Operand}(O1 Or:List OE){t:OI->Ty}{O2:OI->List OE}(hO:O=O1++Or)(hc:ak E.P n=true)(hs:ea E.P n (ts++cts) O1 t O2)(hf:bk E.N G fo (tC n cts))(D:kD E.N G xs ts)(hpost: ∀i,O2 i++Or=post i):
  EffOK E O G ⟨some ah,.call ⟨.value fo,xs.toArray,ats⟩,ty,pos,after,g⟩ post t:=fun a w S hsat ho hF A=>by
 subst hO
 obtain rfl:(fun i=>O2 i++Or)=post:=funext hpost
 obtain⟨cap,e,hcap⟩:=hf S a hF
 have hr:(execOp a.eval ⟨some ah,.call ⟨.value fo,xs.toArray,ats⟩,ty,pos,after,g⟩).run E.P w= .ok (.enter n ((xs.map a.eval).toArray++cap.toArray)) w:=by
  simp [execOp,resolve,e,Deferred.ofValue,invoke,kf hc]
 refine⟨fun c h=>(by cases h),?_⟩
 rw [hr]
 have e2:(xs.map a.eval).toArray++cap.toArray=((xs.map a.eval)++cap).toArray:=by simp
 rw [e2]
 exact(hs w S _ hsat ((D.tys hF).append hcap) (ry ho).1.weak).mono fun en w' ⟨i,v,S',he,hv,H,J,h3,h4⟩=>⟨_,he,v,S',i,rfl,H.more fun b ⟨f,hf,A⟩=>⟨f,FQ _ hf,A⟩,J,dA.turn ho A H h3 h4,hv⟩
end

def Ig{α:Type}(xs:List α)(lo:Int)(n:Nat)(i:Int):Option α:=if 0<=i/\i<(n:Int)then fz xs (lo+i)else none
def Ay{i:Int}(h:Ig xs lo n i=some y):0<=i/\i<(n:Int)/\fz xs (lo+i)=some y:=by
 unfold Ig at h
 split at h
 ·rename_i hc;exact⟨hc.1,hc.2,h⟩
 ·cases h
def DL(h:dJ xs lo hi=some ys):0<=lo:=by
 obtain⟨l,m,rfl,_,_,_,_⟩:=gI h
 omega
section
def sv(hm:mh mm r T l cap xs∈O)(hs:dJ xs lo hi=some ys)(h:(l=none->ys.length=0)/\ys.length<=maxLen->RG E ops aC rest O G):RG E ops aC rest O G:=fun a w S st=>by
 refine h ?_ a w S st
 obtain⟨cells,H,_⟩:=(st.own.mem _ hm).1
 obtain⟨l',m,_,_,_,h8,rfl⟩:=gI hs
 have hlen:((xs.take m).drop l').length<=xs.length:=by simp;omega
 cases l with
 |none=>have:=H.1;exact⟨fun _=>by omega,by omega⟩
 |some b=>obtain⟨cur,_,g2,g3,_⟩:=H;exact⟨fun h=>(by cases h),by omega⟩
section
variable{ty:TypeId}
def Pz{lo:Nat}{e:TypeId}(M:E.P.underlying t=some (.slice e))(hv:l=none->n=0)(D:bk E.N G x (tV (pf sz l cap lo n))):
  cH E O G ⟨dst,.call ⟨.builtin .len,#[x],#[t]⟩,ty,pos,after,g⟩ (Z (rI .i64) (n:Int)):=
 .of_pure fun a w S _ ho hf=>by
  have H:a.eval x=pf sz l cap lo n:=D S a hf
  obtain⟨ad,c,h3⟩: ∃ad c,pf sz l cap lo n= .slice ad n c:=by
   cases l with
   |none=>rw [hv rfl];exact⟨none,0,rfl⟩
   |some b=>exact⟨_,_,rfl⟩
  refine⟨.int .i64 n,?_,f8.2 rfl⟩
  simp [execOp,resolve,invoke,builtin,Builtin.len_,jZ M,H,h3,goInt]
def xe{e:TypeId}{i:Int}(M:E.P.underlying t=some (.slice e))(ti:TI E.P e sz bytes agg z)(hsz:r.sz=sz)(hm:mh mm r U l cap xs∈O)(hl0:0<=lo)(D:bk E.N G x (tV (pf sz l cap lo.toNat n)))(hi' :bk E.N G ix (Z (rI k) i))(hy:Ig xs lo n i=some y):
  cH E O G ⟨dst,.indexAddr t x ix,ty,pos,after,g⟩ (tV (dO l ((lo+i).toNat*sz+0))):=
 .of_pure fun a w S _ ho hf=>by
  subst hsz
  have H:a.eval x=pf r.sz l cap lo.toNat n:=D S a hf
  have h3:a.eval ix= .int k i:=f8.1 (hi' S a hf)
  obtain⟨hi0,hin,hxi⟩:=Ay hy
  obtain⟨_,hx'⟩:=kx hxi
  obtain⟨b,cur,rfl,_,hle,_⟩:=r0 (ho.mem _ hm).1 hx'
  have hlt2:(lo+i).toNat<xs.length:=(kN.1 hx').1
  have hne: ¬(cap=lo.toNat):=by omega
  refine⟨_,?_,rfl⟩
  have hc:0<=i/\i<(n:Int):=⟨hi0,hin⟩
  have e1:(lo+i).toNat=lo.toNat+i.toNat:=by omega
  simp [execOp,H,h3,pf,hne,Instr.indexAt,asIntOf,jZ M,hc,ti.sizeOf,jA,dO,an,e1,AO]
end
end

section
variable{ty:TypeId}{l:List Oper}
end

def Yg [Inhabited α]{c b:Bool}{x:Option α}{k:α->Option β}{ah:Option β}{r:β}(h:c=true->(if b=true then x.bind k else ah)=some r): ∃y,((c&&b)=true->x=some y/\k y=some r)/\(c=true->b=false->ah=some r):=by
 cases c with
 |false=>exact⟨default,fun e=>(by cases e),fun e=>(by cases e)⟩
 |true=>
  obtain⟨y,H,J⟩:=og (h rfl)
  exact⟨y,fun e=>H e,fun _ e=>J e⟩
def ie{κ β:Type} [DecidableEq κ]:List (κ×β)->κ->Option β
 |[],_=>none
 |p::m,k=>if p.1=k then some p.2 else ie m k
def kh{κ β:Type} [DecidableEq κ]:List (κ×β)->κ->β->List (κ×β)
 |[],k,v=>[(k,v)]
 |p::m,k,v=>if p.1=k then(k,v)::m else p::kh m k v
def Bq{κ:Type}(P:Program)(kt:TypeId)(kv:κ->Value):Prop:= ∃ah,P.underlying kt=some ah/\(∀a,MapKept.IsKey ah (kv a))/\ ∀a b,kv a=kv b->a=b
def kvI(k:IntKind)(n:Int):Value:= .int k n
def ew(s:cX):Value:= .string ⟨s.toArray⟩
variable{kt:TypeId}
def yg(h:P.underlying kt=some (.int k)):Bq P kt (kvI k):=⟨_,h,fun _=>rfl,fun a b e=>by injection e⟩
def C1(h:P.underlying kt=some .string):Bq P kt ew:=⟨_,h,fun _=>trivial,fun a b e=>by
 injection e with e
 injection e with e
 simpa using congrArg Array.toList e⟩
structure MV(β:Type) where
 p:World->SH->β->Option Nat×Nat->Value->Prop
 here: ∀{w S y o v},p w S y o v-> ∀j,o.1=some j->j<w.heap.size
 kept: ∀{C w w' S S' y o v},p w S y o v->lq C w S w' S' ->(∀j,o.1=some j-> ¬C j)->p w' S' y o v
def J1{β:Type}(ty:β->Ty):MV β where
 p:=fun _ S y o v=>o.1=none/\(ty y).p S v
 here:=fun h j hj=>by rw [h.1]at hj;cases hj
 kept:=fun h k _=>⟨h.1,(ty _).mono k.keep h.2⟩
def Xd{α:Type}(r:Rp α)(T:TypeId):MV (List α) where
 p:=fun w S xs o v=>v=Y o.1 o.2 xs.length/\AY true r T o.1 o.2 xs w S
 here:=fun{w S y o v} h j hj=>(mh true r T o.1 o.2 y).here h.2 j hj
 kept:=fun{C w w' S S' y o v} h k hC=>⟨h.1,(mh true r T o.1 o.2 y).kept h.2 k hC⟩
section
variable{κ:Type} [DecidableEq κ]{hg:MV β}{kv:κ->Value}{ah:TypeDesc}{k:κ}
def zb(hg:MV β)(kv:κ->Value)(w:World)(S:SH)(h:Option κ):List MapEntry->List (Option Nat×Nat)->List (κ×β)->Prop
 |[],[],[]=>True
 |e::es,o::os,q::m=>e.key=kv q.1/\(if h=some q.1 then o.1=none else hg.p w S q.2 o e.val)/\(∀o' ∈os,∀j,o.1=some j->o'.1≠some j)/\(∀p∈m,p.1≠q.1)/\zb hg kv w S h es os m
 |_,_,_=>False
def Ji{h:Option κ}: ∀{es:List MapEntry} {os:List (Option Nat×Nat)} {m:List (κ×β)},zb hg kv w S h es os m-> ∀o∈os,∀j,o.1=some j->j<w.heap.size
 |[],[],[],_,o,ho,_,_=>by cases ho
 |e::es,o::os,q::m,⟨_,J,_,_,h5⟩,o',ho,j,hj=>by
  rcases gn.1 ho with rfl|ho
  ·split at J
   ·rw [J]at hj;cases hj
   ·exact hg.here J j hj
  ·exact Ji h5 o' ho j hj
def Dh{C:Nat->Prop}(k:lq C w S w' S'){h:Option κ}: ∀{es:List MapEntry} {os:List (Option Nat×Nat)} {m:List (κ×β)},zb hg kv w S h es os m->(∀o∈os,∀j,o.1=some j-> ¬C j)->zb hg kv w' S' h es os m
 |[],[],[],_,_=>trivial
 |e::es,o::os,q::m,⟨H,J,h3,h4,h5⟩,hC=>⟨H,by
  split
  ·rename_i hh;rw [cx hh]at J;exact J
  ·rename_i hh;rw [cm hh]at J;exact hg.kept J k (hC o (oh ..)),h3,h4,Dh k h5 fun o' ho=>hC o' (oO _ ho)⟩
def EU{h:Option κ}: ∀{es:List MapEntry} {os:List (Option Nat×Nat)} {m:List (κ×β)},zb hg kv w S h es os m->(∀p∈m,h≠some p.1)->zb hg kv w S none es os m
 |[],[],[],_,_=>trivial
 |e::es,o::os,q::m,⟨H,J,h3,h4,h5⟩,hk=>⟨H,by
  rw [cm (hk q (oh ..))]at J
  rw [cm (by simp)];exact J,h3,h4,EU h5 fun p hp=>hk p (oO _ hp)⟩
def uX(hd: ∀a,MapKept.IsKey ah (kv a))(hi: ∀a b,kv a=kv b->a=b)(a b:κ):Instr.sameNow ah (kv a) (kv b)=some (decide (a=b)):=by
 obtain⟨r,H,J⟩:=MapKept.sameNow_of_keys (hd a) (hd b)
 rw [H]
 by_cases h:a=b
 ·subst h;rw [J.2 rfl];simp
 ·rw [um h]
  cases r with
  |false=>rfl
  |true=>exact absurd (hi _ _ (J.1 rfl)) h
def rk(hd: ∀a,MapKept.IsKey ah (kv a))(hi: ∀a b,kv a=kv b->a=b): ∀{es:List MapEntry} {os:List (Option Nat×Nat)} {m:List (κ×β)} (i:Nat),zb hg kv w S none es os m->
  ∃os',(∀x∈os',x∈os\/x.1=none)/\zb hg kv w S (some k) es os' m/\
   ((ie m k=none/\Instr.findNow ah (kv k) es i=some none)\/ ∃(y:β) (o:Option Nat×Nat) (e:MapEntry) (j:Nat),ie m k=some y/\o∈os/\hg.p w S y o e.val/\Instr.findNow ah (kv k) es i=some (some (j,e.val))/\ ∀x∈os',∀q,o.1=some q->x.1≠some q)
 |[],[],[],i,_=>⟨[],fun x D=>(by cases D),trivial,.inl ⟨rfl,rfl⟩⟩
 |e::es,o::os,q::m,i,⟨H,J,h3,h4,h5⟩=>by
  rw [cm (by simp)]at J
  by_cases hk:q.1=k
  ·refine⟨(none,0)::os,fun x D=>?_,⟨H,by rw [cx (by rw [hk])],fun _ _ _ hj=>(by cases hj),h4,?_⟩,.inr ⟨q.2,o,e,i,by unfold ie;rw [cx hk],oh ..,J,?_,fun x D j hj=>?_⟩⟩
   ·rcases gn.1 D with rfl|D
    ·exact .inr rfl
    ·exact .inl (oO _ D)
   ·have: ∀{es:List MapEntry} {os:List (Option Nat×Nat)} {m:List (κ×β)},zb hg kv w S none es os m->(∀p∈m,p.1≠k)->zb hg kv w S (some k) es os m:=by
     intro es
     induction es with
     |nil=>intro os m h _;cases os<;>cases m<;>first|trivial|exact h.elim
     |cons e es ih=>
      intro os m h hm
      cases os with
      |nil=>cases m<;>exact h.elim
      |cons o os=>
       cases m with
       |nil=>exact h.elim
       |cons q m=>
        obtain⟨g1,g2,g3,g4,g5⟩:=h
        rw [cm (by simp)]at g2
        exact⟨g1,by rw [cm (fun e=>hm q (oh ..) (rC e).symm)];exact g2,g3,g4,ih g5 fun p hp=>hm p (oO _ hp)⟩
    exact this h5 (fun p hp=>by rw [<-hk];exact h4 p hp)
   ·unfold Instr.findNow
    rw [H,uX hd hi,hk,rG rfl]
   ·rcases gn.1 D with rfl|D
    ·exact fun e=>by cases e
    ·exact h3 x D j hj
  ·obtain⟨os',g1,g2,g3⟩:=rk hd hi (i+1) h5
   refine⟨o::os',fun x D=>?_,⟨H,by rw [cm (fun e=>hk (rC e).symm)];exact J,fun o' ho' j hj=>?_,h4,g2⟩,?_⟩
   ·rcases gn.1 D with rfl|D
    ·exact .inl (oh ..)
    ·exact(g1 x D).imp (oO _) id
   ·rcases g1 o' ho' with h|h
    ·exact h3 o' h j hj
    ·rw [h];exact fun e=>by cases e
   ·have hf:Instr.findNow ah (kv k) (e::es) i=Instr.findNow ah (kv k) es (i+1):=by
     conv=>lhs;unfold Instr.findNow
     rw [H,uX hd hi,um (fun e=>hk e.symm)]
    have hm:ie (q::m) k=ie m k:=by conv=>lhs;unfold ie;rw [cm hk]
    rw [hf,hm]
    refine g3.imp id fun⟨y,o1,e1,j,f1,f2,f3,f4,f5⟩=>⟨y,o1,e1,j,f1,oO _ f2,f3,f4,fun x D q hq=>?_⟩
    rcases gn.1 D with rfl|D
    ·exact fun e=>h3 o1 f2 q e hq
    ·exact f5 x D q hq
def EO(x:α)(xs:List α)(j:Nat)(f:α->α):(x::xs).modify (j+1) f=x::xs.modify j f:=by simp [List.modify_succ_cons]
def Jj(hd: ∀a,MapKept.IsKey ah (kv a))(hi: ∀a b,kv a=kv b->a=b){y:β}{o:Option Nat×Nat}{v:Value}{born:Nat}(hv:hg.p w S y o v): ∀{es:List MapEntry} {os:List (Option Nat×Nat)} {m:List (κ×β)} (i:Nat),zb hg kv w S (some k) es os m->(∀o' ∈os,∀j,o.1=some j->o'.1≠some j)->
    ∃os',(∀x∈os',x∈os\/x=o)/\
      ((∃(j:Nat) (e:MapEntry),Instr.findNow ah (kv k) es i=some (some (i+j,e.val))/\es[j]? =some e/\e.key=kv k/\zb hg kv w S none (es.modify j fun e=>{e with key:=kv k,val:=v}) os' (kh m k y))\/
        (Instr.findNow ah (kv k) es i=some none/\zb hg kv w S none (es++[⟨kv k,v,born⟩]) os' (kh m k y)))
  |[],[],[],i,_,_=>⟨[o],fun x D=> .inr (Bx.1 D),.inr ⟨rfl,⟨rfl,by rw [cm (by simp)];exact hv,fun _ h=>(by cases h),fun _ h=>(by cases h),trivial⟩⟩⟩
  |e::es,o1::os,q::m,i,⟨H,J,h3,h4,h5⟩,ha=>by
    by_cases hk:q.1=k
    · refine⟨o::os,fun x D=>?_,.inl ⟨0,e,?_,rfl,by rw [H,hk],?_⟩⟩
      · rcases gn.1 D with rfl|D
        · exact .inr rfl
        · exact .inl (oO _ D)
      · unfold Instr.findNow
        rw [H,uX hd hi,hk,rG rfl]
        rfl
      · unfold kh
        rw [cx hk,List.modify_zero_cons]
        exact⟨rfl,by rw [cm (by simp)];exact hv,fun o' ho' =>ha o' (oO _ ho'),fun p hp=>by rw [<-hk];exact h4 p hp,
          EU h5 fun p hp e=>h4 p hp (by rw [hk];exact(rC e).symm)⟩
    · obtain⟨os',g1,g2⟩:=Jj hd hi (born:=born) hv (i+1) h5 fun o' ho' =>ha o' (oO _ ho')
      rw [cm (fun e=>hk (rC e).symm)]at J
      have hf:Instr.findNow ah (kv k) (e::es) i=Instr.findNow ah (kv k) es (i+1):=by
        conv=>lhs;unfold Instr.findNow
        rw [H,uX hd hi,um (fun e=>hk e.symm)]
      have hm:kh (q::m) k y=q::kh m k y:=by conv=>lhs;unfold kh;rw [cm hk]
      have hap: ∀o' ∈os',∀j,o1.1=some j->o'.1≠some j:=fun o' ho' j hj=>by
        rcases g1 o' ho' with h|rfl
        · exact h3 o' h j hj
        · exact fun e=>ha o1 (oh ..) j e hj
      have hne: ∀p∈kh m k y,p.1≠q.1:=by
        have: ∀m:List (κ×β),(∀p∈m,p.1≠q.1)-> ∀p∈kh m k y,p.1≠q.1:=by
          intro m
          induction m with
          |nil=>intro _ p hp;rw [Bx.1 hp];exact fun e=>hk e.symm
          |cons p0 m ih=>
            intro hm p hp
            unfold kh at hp
            split at hp
            · rcases gn.1 hp with rfl|hp
              · exact fun e=>hk e.symm
              · exact hm p (oO _ hp)
            · rcases gn.1 hp with rfl|hp
              · exact hm _ (oh ..)
              · exact ih (fun p hp=>hm p (oO _ hp)) p hp
        exact this m h4
      rw [hf,hm]
      refine⟨o1::os',fun x D=>?_,g2.imp (fun⟨j,e',f1,f2,f3,f4⟩=>⟨j+1,e',by rw [f1];congr 3;omega,by simpa using f2,f3,?_⟩) fun⟨f1,f2⟩=>⟨f1,?_⟩⟩
      · rcases gn.1 D with rfl|D
        · exact .inl (oh ..)
        · exact(g1 x D).imp (oO _) id
      · rw [EO]
        exact⟨H,by rw [cm (by simp)];exact J,hap,hne,f4⟩
      · exact⟨H,by rw [cm (by simp)];exact J,hap,hne,f2⟩
def Jh{h:Option κ}: ∀{es:List MapEntry} {os:List (Option Nat×Nat)} {m:List (κ×β)},zb hg kv w S h es os m-> ∀x∈es,∃q∈m,x.key=kv q.1
 |[],[],[],_,x,D=>by cases D
 |e::es,o::os,q::m,⟨H,_,_,_,h5⟩,x,D=>by
  rcases gn.1 D with rfl|D
  ·exact⟨q,oh ..,H⟩
  ·obtain⟨q',g1,g2⟩:=Jh h5 x D
   exact⟨q',oO _ g1,g2⟩
def RK(hd: ∀a,MapKept.IsKey ah (kv a)){h:Option κ}{es:List MapEntry}{os:List (Option Nat×Nat)}{m:List (κ×β)}(h4:zb hg kv w S h es os m)(g1:Instr.findNow ah (kv k) es i=some none){x:MapEntry}(D:x∈es):x.key≠kv k:=by
 rcases MapKept.findNow_spec (hd k) es i (fun y hy=>by obtain⟨q,_,e⟩:=Jh h4 y hy;rw [e];exact hd _)with⟨_,J⟩|⟨j,e,J,_⟩
 ·exact J x D
 ·rw [g1]at J;cases J
def ci(hg:MV β)(kv:κ->Value)(b:Nat)(h:Option κ)(os:List (Option Nat×Nat))(m:List (κ×β)):OE where
 fp:=fun j=>j=b\/ ∃o∈os,o.1=some j
 p:=fun w S=>S b=none/\(∀o∈os,o.1≠some b)/\ ∃es clock,w.heap[b]? =some (.map es clock)/\zb hg kv w S h es.toList os m/\MapKept.Stamped es clock
 here:=by
  intro w S ⟨_,_,es,clock,h3,h4,_⟩ j hj
  rcases hj with rfl|⟨o,ho,hj⟩
  ·exact(BA.1 h3).1
  ·exact Ji h4 o ho j hj
 kept:=by
  intro C w w' S S' ⟨H,J,es,clock,h3,h4,hst⟩ k hC
  have hlt:=(BA.1 h3).1
  exact⟨by rw [k.old b hlt (hC b (.inl rfl))];exact H,J,es,clock,by rw [k.heap b hlt (hC b (.inl rfl))];exact h3,Dh k h4 (fun o ho j hj=>hC j (.inr ⟨o,ho,hj⟩)),hst⟩
def aH(b:Nat):Value:= .map (some b)
end
variable{r' :Rp γ}
section
variable{κ:Type} [DecidableEq κ]{hg:MV β}{kv:κ->Value}{os:List (Option Nat×Nat)}{m:List (κ×β)}{k:κ}{et:TypeId}{i v:Operand}{dst:Option Nat}{ty:TypeId}
def yY(N:Fr)(G:mM)(x:Operand)(u:Value):Prop:= ∀S a,dm N S a G->a.eval x=u
def N2{N:Fr}{q:IntKind}{n:Int}(h:bk N G x (Z (rI q) n)):yY N G x (kvI q n):=fun S a hf=>f8.1 (h S a hf)
def Td{N:Fr}{n:cX}(h:bk N G x (Z rS n)):yY N G x (ew n):=fun S a hf=>uu.1 (h S a hf)
def ZV(P:Program)(T:TypeId)(z:Value):Prop:=(P.info? T).bind (·.zero)=some z
def ZV.run{z:Value}(h:ZV P T z)(w:World):(zeroValue T).run P w= .ok z w:=by
 unfold ZV at h
 cases hi:P.info? T with
 |none=>rw [hi]at h;cases h
 |some i=>
  rw [hi]at h
  have h' :i.zero=some z:=h
  simp [zeroValue,typeInfo,hi,h']
def Ce(hg:MV β)(kv:κ->Value)(hd:Nat.blt ah E.N.n=true)(k: ∀b,RG E ops aC rest (ci hg kv b none [] []::O) ((ah,tV (aH b))::G)):
  RG E ops aC (⟨some ah,.makeMap t none,ty,pos,after,none⟩::rest) O G:= .of rfl fun a w S st=>by
 obtain⟨he,hs',hno⟩:=lF (w:=w) (.map #[] 0) st.sat
 have hrun:(execOp a.eval ⟨some ah,.makeMap t none,ty,pos,after,none⟩).run E.P w= .ok (.value (aH w.heap.size)) (w.alloc (.map #[] 0)):=by
  simp [execOp,Instr.makeMap,aH]
 refine⟨fun c h=>(by cases h),?_⟩
 rw [hrun]
 exact k w.heap.size _ _ S ⟨st.ext.step0 he,hs',u7 st.own he ⟨hno,fun _ h=>(by cases h),#[],0,A1 w _,trivial,MapKept.stamped_empty 0⟩ (fun b A=>by
  rcases A with rfl|⟨_,h,_⟩
  ·exact f7 _
  ·cases h) st.base_le,st.facts.put hd rfl⟩
def lA{kk:Value}{es:Array MapEntry}{clock:Nat}{q:TypeDesc}{z:Value}{u:Option (Nat×Value)}(hm:P.underlying t=some (.map kt et))(hq:P.underlying kt=some q)(hk:MapKept.IsKey q kk)(A:w.heap[b]? =some (.map es clock))(hz:ZV P et z)(hf:Instr.findNow q kk es.toList 0=some u)(c:Bool):(Instr.lookup t (aH b) kk c).run P w= .ok (if c then .tuple #[(u.map (·.2)).getD z,.bool u.isSome]else(u.map (·.2)).getD z) w:=by
 cases u with
 |none=>simp [Instr.lookup,aH,jZ hm,KN A,OY hq hk,MapKept.run_findKey hq hf,hz.run,Result.andThen]
 |some r=>simp [Instr.lookup,aH,jZ hm,KN A,OY hq hk,MapKept.run_findKey hq hf,Result.andThen]
def NO{γ:β->Ty}{z:β}{zv:Value}(hm:E.P.underlying t=some (.map kt et))(hk:Bq E.P kt kv)(hz:ZV E.P et zv)(hzt: ∀S,(γ z).p S zv)(hmem:ci (J1 γ) kv b none os m∈O)(D:bk E.N G x (tV (aH b)))(hi:yY E.N G i (kv k)):
  cH E O G ⟨dst,.lookup t x i false,ty,pos,after,g⟩ (γ ((ie m k).getD z)):= .of_pure fun a w S hs ho hf=>by
 obtain⟨⟨_,_,es,clock,h3,h4,_⟩,_⟩:=dA.mem ho _ hmem
 obtain⟨q,hq,hd,hinj⟩:=hk
 have H:a.eval x=aH b:=D S a hf
 have J:a.eval i=kv k:=hi S a hf
 obtain⟨_,_,_,h5⟩:=rk hd hinj (k:=k) 0 h4
 rcases h5 with⟨g1,g2⟩|⟨y,o,e,j,g1,g2,g3,g4,g5⟩
 ·refine⟨zv,by simp [execOp,H,J,lA hm hq (hd k) h3 hz g2],by rw [g1];exact hzt S⟩
 ·refine⟨e.val,by simp [execOp,H,J,lA hm hq (hd k) h3 hz g4],by rw [g1];exact g3.2⟩
def NP{m:List (κ×List α)}(hm:E.P.underlying t=some (.map kt et))(hk:Bq E.P kt kv)(hz:ZV E.P et (.slice none 0 0))(hmem:ci (Xd r T) kv b none os m∈O)(D:bk E.N G x (tV (aH b)))(hi:yY E.N G i (kv k)):
  cH E O G ⟨dst,.lookup t x i false,ty,pos,after,g⟩ (Z (eM r) ((ie m k).getD [])):= .of_pure fun a w S hs ho hf=>by
 obtain⟨⟨_,_,es,clock,h3,h4,_⟩,_⟩:=dA.mem ho _ hmem
 obtain⟨q,hq,hd,hinj⟩:=hk
 have H:a.eval x=aH b:=D S a hf
 have J:a.eval i=kv k:=hi S a hf
 obtain⟨_,_,_,h5⟩:=rk hd hinj (k:=k) 0 h4
 rcases h5 with⟨g1,g2⟩|⟨y,o,e,j,g1,g2,g3,g4,g5⟩
 ·refine⟨.slice none 0 0,by simp [execOp,H,J,lA hm hq (hd k) h3 hz g2],by rw [g1];exact Cz⟩
 ·refine⟨e.val,by simp [execOp,H,J,lA hm hq (hd k) h3 hz g4],by rw [g1,g3.1];exact nc g3.2⟩
def DW{kk:Value}{es:Array MapEntry}{clock:Nat}{q:TypeDesc}{val:Value}(hm:P.underlying t=some (.map kt et))(hq:P.underlying kt=some q)(hk:MapKept.IsKey q kk)(A:w.heap[b]? =some (.map es clock)):
  (Instr.findNow q kk es.toList 0=some none->(Instr.mapUpdate t (aH b) kk val).run P w= .ok () {w with heap:=w.heap.setIfInBounds b (.map (es.push ⟨kk,val,clock⟩) (clock+1))})/\
  (∀j e,Instr.findNow q kk es.toList 0=some (some (j,e))->(∀e',es.toList[j]? =some e' ->e'.key=kk)->(∃e',es.toList[j]? =some e')->(Instr.mapUpdate t (aH b) kk val).run P w= .ok () {w with heap:=w.heap.setIfInBounds b (.map (es.modify j fun e=>{e with key:=kk,val:=val}) clock)}):=by
 refine⟨fun hf=>?_,fun j e hf hj he=>?_⟩
 ·simp [Instr.mapUpdate,aH,jZ hm,KN A,OY hq hk,MapKept.run_findKey hq hf,O6 _ A,Result.andThen]
 ·obtain⟨e',he'⟩:=he
  have H:=hj e' he'
  have J:es[j]? =some e' :=by simpa using he'
  simp [Instr.mapUpdate,aH,jZ hm,KN A,OY hq hk,MapKept.run_findKey hq hf,O6 _ A,Result.andThen,J,H,MapKept.run_keyThatStays hk]
def D5{y:β}{o:Option Nat×Nat}{val:Value}(hs:mU w S)(hm:E.P.underlying t=some (.map kt et))(hk:Bq E.P kt kv)(hp:(ci hg kv b (some k) os m).p w S)(hv:hg.p w S y o val)(hob:o.1≠some b)(hap: ∀o' ∈os,∀j,o.1=some j->o'.1≠some j):
  ∃w' os',(Instr.mapUpdate t (aH b) (kv k) val).run E.P w= .ok () w' /\lq (fun j=>j=b) w S w' S/\mU w' S/\(ci hg kv b none os' (kh m k y)).p w' S/\(∀j,(ci hg kv b none os' (kh m k y)).fp j->(ci hg kv b (some k) os m).fp j\/o.1=some j):=by
 obtain⟨hno,hnb,es,clock,h3,h4,hst⟩:=hp
 obtain⟨q,hq,hdk,hinj⟩:=hk
 obtain⟨os',p1,p2⟩:=Jj hdk hinj (born:=clock) hv 0 h4 hap
 have hnb' : ∀o' ∈os',o'.1≠some b:=fun o' ho' =>by
  rcases p1 o' ho' with h|rfl
  ·exact hnb o' h
  ·exact hob
 have hfp: ∀j,(j=b\/ ∃o∈os',o.1=some j)->(j=b\/ ∃o∈os,o.1=some j)\/o.1=some j:=fun j hj=>by
  rcases hj with h|⟨o',ho',e⟩
  ·exact .inl (.inl h)
  ·rcases p1 o' ho' with h|rfl
   ·exact .inl (.inr ⟨o',h,e⟩)
   ·exact .inr e
 have hw: ∀X:Obj,lq (fun j=>j=b) w S {w with heap:=w.heap.setIfInBounds b X} S/\mU {w with heap:=w.heap.setIfInBounds b X} S/\({w with heap:=w.heap.setIfInBounds b X}:World).heap[b]? =some X:=fun X=>
  ⟨⟨rfl,rfl,rfl,f7 _,by simp,fun j _ hj=>(MapKept.heap_set (o' :=X) h3).2 j hj,SH.le_refl _,fun _ _ _=>rfl⟩,hs.same fun j o hj=>(MapKept.heap_set (o' :=X) h3).2 j (fun e=>by subst e;rw [hno]at hj;cases hj),(MapKept.heap_set h3).1⟩
 obtain⟨r1,r2⟩:=DW (val:=val) hm hq (hdk k) h3
 rcases p2 with⟨j,e,g1,g2,g3,g4⟩|⟨g1,g2⟩
 ·rw [sE]at g1
  obtain⟨x1,x2,x3⟩:=hw (.map (es.modify j fun e=>{e with key:=kv k,val:=val}) clock)
  refine⟨_,os',r2 j _ g1 (fun e' he' =>by rw [g2]at he';cases he';exact g3) ⟨_,g2⟩,x1,x2,⟨hno,hnb',_,_,x3,?_,MapKept.stamped_modify hst j _ (fun _ _=>rfl) (fun e' _ he' =>by rw [<-O3,g2]at he';cases he';exact g3.symm)⟩,hfp⟩;refine Dh x1 (by rw [Array.toList_modify];exact g4) fun o' ho' j hj e=>?_
  subst e
  exact hnb' o' ho' hj
 ·obtain⟨x1,x2,x3⟩:=hw (.map (es.push ⟨kv k,val,clock⟩) (clock+1))
  refine⟨_,os',r1 g1,x1,x2,⟨hno,hnb',_,_,x3,?_,MapKept.stamped_push hst (fun x D e=>?_)⟩,hfp⟩
  rotate_left
  ·exact RK hdk h4 g1 D e
  refine Dh x1 (by rw [Array.toList_push];exact g2) fun o' ho' j hj e=>?_
  subst e
  exact hnb' o' ho' hj
def WK{γ:β->Ty}{y:β}(hm:E.P.underlying t=some (.map kt et))(hk:Bq E.P kt kv)(D:bk E.N G x (tV (aH b)))(hi:yY E.N G i (kv k))(hv:bk E.N G v (γ y))
  (h: ∀os',RG E ops aC rest (ci (J1 γ) kv b none os' (kh m k y)::O) G):
  RG E ops aC (⟨none,.mapUpdate t x i v,ty,pos,after,none⟩::rest) (ci (J1 γ) kv b none os m::O) G:= .of rfl fun a w S st=>by
 have H:a.eval x=aH b:=D S a st.facts
 have J:a.eval i=kv k:=hi S a st.facts
 have h3:(γ y).p S (a.eval v):=hv S a st.facts
 obtain⟨⟨hp,hfp⟩,hap,hO⟩:=st.own
 obtain⟨hno,hnb,es,clock,e3,e4,hst⟩:=hp
 obtain⟨q,hq,hdk,hinj⟩:=hk
 obtain⟨os1,p1,p2,_⟩:=rk hdk hinj (k:=k) 0 e4
 have hnb1: ∀o∈os1,o.1≠some b:=fun o ho=>by
  rcases p1 o ho with h|h
  ·exact hnb o h
  ·rw [h];exact fun e=>by cases e
 obtain⟨w',os',r,x1,x2,x3,x4⟩:=D5 (hg:=J1 γ) (E:=E) (y:=y) (o:=(none,0)) (val:=a.eval v) st.sat hm ⟨q,hq,hdk,hinj⟩ ⟨hno,hnb1,es,clock,e3,p2,hst⟩ ⟨rfl,h3⟩ (fun e=>by cases e) (fun _ _ _ e=>by cases e)
 have hrun:(execOp a.eval ⟨none,.mapUpdate t x i v,ty,pos,after,none⟩).run E.P w= .ok .skip w' :=by simp [execOp,H,J,r]
 refine⟨fun c h=>(by cases h),?_⟩
 rw [hrun]
 have hfp' : ∀j,(ci (J1 γ) kv b none os' (kh m k y)).fp j->(ci (J1 γ) kv b none os m).fp j:=fun j hj=>by
  rcases x4 j hj with(h|⟨o,ho,e⟩)|e
  ·exact .inl h
  ·rcases p1 o ho with h|h
   ·exact .inr ⟨o,h,e⟩
   ·rw [h]at e;cases e
  ·cases e
 exact h os' _ _ S ⟨st.ext.step x1 (fun c hc=>hfp c (.inl hc)),x2,⟨⟨x3,fun j hj=>hfp j (hfp' j hj)⟩,fun f hf j hj=>hap f hf j (hfp' j hj),hO.ext x1 fun f hf j hj hjb=>hap f hf j (.inl hjb) hj⟩,st.facts⟩
def WL{c:Nat}{m:List (κ×List α)}(hm:E.P.underlying t=some (.map kt et))(hk:Bq E.P kt kv)(D:bk E.N G x (tV (aH b)))(hi:yY E.N G i (kv k))(hv:bk E.N G v (tO r l c xs))(h: ∀os',RG E ops aC rest (ci (Xd r T) kv b none os' (kh m k xs)::O) G):
  RG E ops aC (⟨none,.mapUpdate t x i v,ty,pos,after,none⟩::rest) (K r T l c xs::ci (Xd r T) kv b (some k) os m::O) G:= .of rfl fun a w S st=>by
 have H:a.eval x=aH b:=D S a st.facts
 have J:a.eval i=kv k:=hi S a st.facts
 have h3:a.eval v=Y l c xs.length:=tR hv S a st.facts
 obtain⟨⟨M,htf⟩,hta,⟨hp,hfp⟩,hap,hO⟩:=st.own
 have hmm:=hta _ (oh ..)
 obtain⟨w',os',r',x1,x2,x3,x4⟩:=D5 (hg:=Xd r T) (E:=E) (y:=xs) (o:=(l,c)) (val:=a.eval v) st.sat hm hk hp ⟨h3,M⟩ (fun e=>hmm b e (.inl rfl)) (fun o' ho' j hj e=>hmm j hj (.inr ⟨o',ho',e⟩))
 have hrun:(execOp a.eval ⟨none,.mapUpdate t x i v,ty,pos,after,none⟩).run E.P w= .ok .skip w' :=by simp [execOp,H,J,r']
 refine⟨fun c h=>(by cases h),?_⟩
 rw [hrun]
 exact h os' _ _ S ⟨st.ext.step x1 (fun c hc=>hfp c (.inl hc)),x2,⟨⟨x3,fun j hj=>(x4 j hj).elim (hfp j) (htf j)⟩,fun f hf j hj=>(x4 j hj).elim (hap f hf j) (fun e=>hta f (oO _ hf) j e),hO.ext x1 fun f hf j hj hjb=>hap f hf j (.inl hjb) hj⟩,st.facts⟩
end

def BN(tmps:Array Value):ResultVar->Sem Value
 | .tmp t=>pure (tmps.getD t undef)
 | .cell a t=>do loadVar t (<-asAddr (tmps.getD a undef))
def Uq(P:Program)(N:Fr)(G:mM)(rv:ResultVar)(t:Ty):Prop:= ∀a w S,mU w S->dm N S a G-> ∃v,(BN a.tmps rv).run P w= .ok v w/\t.p S v
def bH{N:Fr}{k:Nat}{t:Ty}(hk:look G k=some t):Uq P N G (.tmp k) t:=fun a w S _ hf=>⟨_,rfl,hf.at_ k t hk⟩
def di{N:Fr}{k:Nat}{x:α}(ti:TI P T sz bytes agg z)(hsz:r.sz=sz)(hag:r.agg=agg)(hk:look G k=some (bo r x)):Uq P N G (.cell k T) (Z r x):=fun a w S hs hf=>by
 obtain⟨b,off,c,U,fr,H,J,h3⟩:=hf.at_ k _ hk
 obtain⟨c',h4,h5⟩:=hs.part J (r.len h3)
 rw [<-h5]at h3
 have hl:=lR ti h4 hsz hag h3
 have h1' :a.tmps[k]?.getD undef=Value.pointer (some ⟨b,off,none⟩):=by simpa [KO] using H
 exact⟨_,by simp [BN,h1',asAddr,hl],_,rfl,h3⟩
def R6(P:Program)(N:Fr)(G:mM):List ResultVar->List Ty->Prop
 |[],[]=>True
 |rv::rvs,t::ts=>Uq P N G rv t/\R6 P N G rvs ts
 |_,_=>False
def R6.run{N:Fr}(hs:mU w S)(hf:dm N S a G): ∀{rvs:List ResultVar} {ts:List Ty},R6 P N G rvs ts-> ∃vs,(rvs.mapM (BN a.tmps)).run P w= .ok vs w/\AZ S ts vs/\vs.length=rvs.length
 |[],[],_=>⟨[],rfl,trivial,rfl⟩
 |rv::rvs,t::ts,⟨H,J⟩=>by
  obtain⟨v,g1,g2⟩:=H a w S hs hf
  obtain⟨vs,k1,k2,k3⟩:=R6.run hs hf J
  exact⟨v::vs,by simp [List.mapM_cons,g1,k1,Result.andThen],⟨g2,k2⟩,by simp [k3]⟩
def ly{rvs:List ResultVar}(hr:fn.results=rvs.toArray)(H:Nat.beq rvs.length 1=false)(h:R6 P ⟨N,[]⟩ G rvs ts):
  AT ⟨P,⟨N,[]⟩,B,w0,S0,none⟩ (bodyPost P fn (Oo ⟨P,⟨N,[]⟩,B,w0,S0,none⟩ (tT ts))) .ret O G:=fun a w S st=>by
 obtain⟨vs,k1,k2,k3⟩:=h.run st.sat st.facts
 have hne: ¬vs.length=1:=by rw [k3];intro e;rw [e]at H;cases H
 refine⟨st.facts.defers,.tuple vs.toArray,?_,_,S,rfl,st.ext,st.sat,vs,rfl,k2⟩
 have e1:(fn.results.mapM (BN a.tmps)).run P w= .ok vs.toArray w:=by
  rw [hr,List.mapM_toArray,Sem.run_map,k1]
  rfl
 have e3:results fn a.tmps=((fn.results.mapM (BN a.tmps))>>=fun vs=>pure (if h:vs.size=1 then vs[0]else .tuple vs)):=rfl
 rw [e3,sA,e1]
 simp [Result.andThen,hne]

def SF{v:Value}(h:(Z (eM r) xs).p S v):(eM r).rc S [v] xs:=by
 obtain⟨cs,e,J⟩:=h
 obtain⟨a,cap,e2,h3⟩:=J
 subst e2
 rw [e]
 exact⟨a,cap,rfl,h3⟩
section
variable{ty:TypeId}
def kF{r:Rp β}{get:β->Value}{x:β}{p:Operand}(ti:TI E.P U 1 bytes false z)(hget:jj r off rV get)(hm:bx r T b x∈O)(hv:get x=Y l cap n)(hp:bk E.N G p (tV (an b off))):
  cH E O G ⟨dst,.load U p,ty,pos,after,g⟩ (tV (Y l cap n)):=(bA (q:=rV) ti rfl rfl hget hm hp).imp fun _ _ h=>by rw [<-hv];exact(CA.1 h).1
def p3{q:Rp α}{r:Rp β}{get:β->Value}{x:β}{hg:TypeId}{p:Operand}(ti:TI E.P U 1 bytes false z)(hget:jj r off rV get)(hm:bx r T b x∈O)(hm2:K q hg l cap xs∈O)(hv:get x=Y l cap xs.length)(hp:bk E.N G p (tV (an b off))):
  cH E O G ⟨dst,.load U p,ty,pos,after,g⟩ (tO q l cap xs):=fun a w S hs ho hf=>
 pZ (fun _ _ ⟨v,S',H,J,h3,h4⟩=>⟨v,S',H,J,h3,h4,by
  have h5:v=Y l cap xs.length:=h4
  rw [h5]
  exact nc (((ho.ext0 J).mem _ hm2).1)⟩) (kF (g:=g) (ty:=ty) (pos:=pos) (after:=after) (dst:=dst) ti hget hm hv hp a w S hs ho hf)
def xf{o:Nat}{p:Operand}(hf:bO E.P T i=some (off,sz))(h0:Nat.beq sz 0=false)(hp:bk E.N G p (tV (an b o)))(he:o+off=n):cH E O G ⟨dst,.fieldAddr T p i,ty,pos,after,g⟩ (tV (an b n)):=by
 subst he
 exact Id hf h0 hp
def ra{q:Rp α}{r:Rp β}{x:β}{p:Operand}(ti:TI E.P U sz bytes agg z)(hsz:q.sz=sz)(hag:q.agg=agg)(hag2:r.agg=agg)(hsz2:r.sz=sz)(hm:bx r T b x∈O)(hc: ∀w S cs,dA E.base E.B w S O->r.rc S cs x->q.rc S cs y)(hp:bk E.N G p (tV (an b 0))):
  cH E O G ⟨dst,.load U p,ty,pos,after,g⟩ (Z q y):= .of_pure fun a w S _ ho hf=>by
 have H:a.eval p=an b 0:=hp S a hf
 obtain⟨⟨_,cur,h5,h6⟩,_⟩:=ho.mem _ hm
 have h7:=hc w S _ ho h6
 have hl:=q.len h7
 have h8:q.rc S ((cur.toList.drop 0).take q.sz) y:=by rw [sF,rF (by omega)];exact h7
 exact⟨_,by simp [execOp,H,an,Instr.loadAt,Instr.sureAddr,lR ti h5 hsz hag h8],_,rfl,h8⟩
def sa{q:Rp α}{hg:TypeId}(ho:dA base B w S O)(hm:K q hg l cap xs∈O):(eM q).rc S [Y l cap xs.length] xs:=SF (nc (ho.mem _ hm).1)
end
def rx{α β γ:Type}(r:Rp α)(r' :Rp γ)(off:Nat)(q:Rp β)(x:α)(y:β)(x' :γ):Prop:= ∀S cs ds,r.rc S cs x->q.rc S ds y->r'.rc S (cs.take off++ds++cs.drop (off+q.sz)) x'
def uy{x:α}{y:β}(h:eP r off q set):rx r r off q x y (set x y):=fun S cs ds H J=>h S cs x ds y H J
def gT{x:α}{y:γ}(hs:r.sz=r'.sz):rx r r' 0 r' x y y:=fun S cs ds H J=>by
 have hl:=r.len H
 rw [List.take_zero,qo,rE (by omega),Cn]
 exact J
def wp{α' :Type}{p:Rp α}{p' :Rp α'}{x:α×β}{y:γ}{x1:α'}(h:rx p p' 0 u x.1 y x1)(hu:Nat.ble u.sz p.sz=true):rx (cn p q) (cn p' q) 0 u x y (x1,x.2):=fun S cs ds ⟨a,b,e,H,J⟩ hd=>by
 have hl:=p.len H
 have hu' :=uq hu
 have h3:=h S a ds H hd
 subst e
 rw [List.take_zero,qo,sE,MS (by omega),<-gF]
 rw [List.take_zero,qo,sE]at h3
 exact⟨_,_,rfl,h3,J⟩
def oW{β' :Type}{p:Rp α}{q' :Rp β'}{x:α×β}{y:γ}{off' :Nat}{x2:β'}(h:rx q q' off u x.2 y x2)(ho:off' =p.sz+off):rx (cn p q) (cn p q') off' u x y (x.1,x2):=fun S cs ds ⟨a,b,e,H,J⟩ hd=>by
 have hl:=p.len H
 have h3:=h S b ds J hd
 subst e ho
 refine⟨a,_,?_,H,h3⟩
 have e1:p.sz+off-a.length=off:=by omega
 have e2:p.sz+off+u.sz-a.length=off+u.sz:=by omega
 rw [List.take_append,List.drop_append,rF (by omega),rE (by omega),e1,e2]
 simp
variable{x' :γ}
def uU{α' β' :Type}{p:Rp α}{p' :Rp α'}{f:β->α}{f' :β' ->α'}{x:β}{x' :β'}{y:γ}{z:α'}(h:rx p p' off u (f x) y z)(e:f' x' =z):rx (kg p f) (kg p' f') off u x y x' :=fun S cs ds H J=>by
 show p'.rc S _ (f' x')
 rw [e]
 exact h S cs ds H J
section
variable{ty:TypeId}
def iM{x:α}{y:β}{p v:Operand}(ti:TI E.P U sz bytes agg z)(hsz:q.sz=sz)(hset:rx r r' off q x y x')(hoff:Nat.ble (off+q.sz) r.sz=true)(hp:bk E.N G p (tV (an b off)))(hv:bk E.N G v (Z q y))(k:RG E ops aC rest (bx r' T b x' ::O) G):RG E ops aC (⟨none,.store U p v,ty,pos,after,none⟩::rest) (bx r T b x::O) G:= .of rfl fun a w S st=>by
 have H:a.eval p=an b off:=hp S a st.facts
 obtain⟨ds,J,h3⟩:=hv S a st.facts
 obtain⟨⟨hno,cur,h5,h6⟩,_⟩:=st.own.1
 have hl:=r.len h6
 have hoff' :=uq hoff
 obtain⟨w',hr,e1,e2,e3,e4,e5,e6⟩:=jO ti hsz h3 h5 (off:=off) (by simp at hl;omega)
 have hrun:(execOp a.eval ⟨none,.store U p v,ty,pos,after,none⟩).run E.P w= .ok .skip w' :=by
  simp [execOp,H,J,Instr.storeAt,an,Instr.sureAddr,hr]
 refine⟨fun c h=>(by cases h),?_⟩
 rw [hrun]
 obtain⟨g1,g2,g3⟩:=nk (O:=O) st.sat (bx r T b x) (bx r' T b x') st.own (fun _=>vz) (fun _=>vz) ⟨e1,e2,e3,e4.1,e4.2⟩ e6 ⟨hno,_,e5,by simpa using hset S _ _ h6 h3⟩ hno
 exact k _ _ S ⟨st.ext.step g1 (fun c hc=>st.own.1.2 c hc),g2,g3,st.facts⟩
def St.cvB{x:α}(h: ∀w S cs,dA E.base E.B w S O->r.rc S cs x->r'.rc S cs x')(st:St E (bx r T b x::O) G a w S):St E (bx r' T b x' ::O) G a w S:=
 st.own_map fun⟨⟨⟨H,c,J,h3⟩,h4⟩,h5,h6⟩=>⟨⟨⟨H,c,J,h _ _ _ h6 h3⟩,h4⟩,h5,h6⟩
def OP{x:α}(h: ∀w S cs,dA E.base E.B w S O->r.rc S cs x->r'.rc S cs x')(k:RG E ops aC rest (bx r' T b x' ::O) G):RG E ops aC rest (bx r T b x::O) G:=fun a w S st=>k a w S (st.cvB h)
end

section
variable{b:Frame}{k:List Item}{cs:List Frame}{F:Fence}
def rp:step P (lone (b.atR a (.code (.scope c)::k)) cs w)= .next (lone (b.atR a (.code c:: .inScope c::k)) cs w):=
 step_lone_go (by simp [stepG,stepG.exec,Frame.atR])
def H7:step P (lone (b.atR a (.inScope c::k)) cs w)= .next (lone (b.atR a k) cs w):=
 step_lone_go (by simp [stepG,stepG.exec,Frame.atR])
def M0(h:c.wpIn F n P (Exit.noGoto aC) a w):(Code.scope c).wpIn F n P aC a w:=by
 intro b k cs hro A hr
 have h0:(lone (b.atR a (.code (.scope c)::k)) cs w).fenced P F:=fenced_calm A hr rfl
 obtain⟨e,a₁,w₁,hq,harr⟩:=h b (.inScope c::k) cs hro A hr
 cases e with
 |normal=>exact⟨.normal,a₁,w₁,hq,.head h0 rp (StepsIn.trans harr (.one (fenced_calm A hr rfl) H7))⟩
 |exit id=>
  have D:exitTo id (.inScope c::k)=exitTo id k:=by simp [exitTo]
  exact⟨.exit id,a₁,w₁,hq,fun k' hk=> .head h0 rp (harr.1 k' (by rw [D];exact hk)),
   fun hr' hk=>let⟨k₁,H,J⟩:=harr.2 hr' (by rw [D];exact hk);⟨k₁,H,.head h0 rp J⟩⟩
 |goto l=>exact hq.elim
 |ret=>exact⟨_,a₁,w₁,hq,.of_steps (.one h0 rp) harr⟩
 |panic ch=>exact⟨_,a₁,w₁,hq,.of_steps (.one h0 rp) harr⟩
 |outgrown=>exact⟨_,a₁,w₁,hq,.of_steps (.one h0 rp) harr⟩
end
section
def MN(h:CG E (Exit.noGoto aC) c O G):CG E aC (.scope c) O G:=fun a w S st=>M0 (h a w S st)
def MO{l:Nat}(h:AT E aC .normal O G):CG E aC (.label l) O G:=fun a w S st=>wpIn_label (h a w S st)
def Ey(h:AT E aC .ret O G):AT E (Exit.noGoto aC) .ret O G:=h
end

def Ka [Inhabited α](h:i<m):jj (qD r m) (i*r.sz) r (fun x=>(x[i]?).getD default):=fun S cs x ⟨H,J⟩=>by
 have hi:x[i]? =some ((x[i]?).getD default):=by rw [lr (by omega)];rfl
 exact CS J hi
def Wt [DecidableEq α] [Inhabited α]{t e:Nat}(M:P.underlying t=some (.array m e))(ti:TI P e sz bytes agg z)(hsz:r.sz=sz)(hag:r.agg=agg)(he:fJ P e r n):fJ P t (qD r m) (n+1):=fun S cs ds x y ah w D hy=>by
 obtain⟨i,zv,hi,hs,_⟩:=ti.get
 have hcell:P.cellsOf e=r.sz:=by unfold Program.cellsOf;rw [hi];simp [hs,hsz]
 have e1:(qD r m).val cs= .agg cs.toArray:=rfl
 have e2:(qD r m).val ds= .agg ds.toArray:=rfl
 rw [e1,e2,show ah+(n+1)=(ah+n)+1 from rfl,run_equalIn_array w (ah+n) cs.toArray ds.toArray M hi,List.range_eq_range',hcell]
 have key: ∀k j,j+k=m->(Op.eqItems (ah+n) e r.sz cs.toArray ds.toArray (List.range' j k)).run P w= .ok (decide (x.drop j=y.drop j)) w:=by
  intro k
  induction k with
  |zero=>
   intro j hj
   rw [rE (by have:=D.1;omega),rE (by have:=hy.1;omega)]
   rfl
  |succ k ih=>
   intro j hj
   have hjx:j<x.length:=by have:=D.1;omega
   have hjy:j<y.length:=by have:=hy.1;omega
   have H:=uY ti hsz hag (Ka (r:=r) (m:=m) (i:=j) (by omega)) D w
   have J:=uY ti hsz hag (Ka (r:=r) (m:=m) (i:=j) (by omega)) hy w
   have h3:=he S _ _ _ _ ah w (Ka (r:=r) (m:=m) (i:=j) (by omega) S cs x D) (Ka (r:=r) (m:=m) (i:=j) (by omega) S ds y hy)
   rw [List.range'_succ]
   unfold Op.eqItems
   simp only [sA,H,J,h3,tJ]
   have ex:x.drop j=(x[j]?).getD default::x.drop (j+1):=by rw [lr hjx];exact sH hjx
   have ey:y.drop j=(y[j]?).getD default::y.drop (j+1):=by rw [lr hjy];exact sH hjy
   rw [ex,ey]
   by_cases hq:(x[j]?).getD default=(y[j]?).getD default
   ·simp only [hq,decide_true,qY,kM,jh]
    rw [ih (j+1) (by omega)]
    congr 1
    simp
   ·simp [hq]
 have:=key m 0 (by omega)
 simpa using this
section
variable{ty:TypeId}
def sQ{xs:List Operand}{sz' bytes' :Nat}{agg' :Bool}{z' :List Value}(M:E.P.underlying t=some (.array m T))(ti:TI E.P T sz bytes agg z)(hsz:r.sz=sz)(tj:TI E.P t sz' bytes' agg' z')(hz:z'.length=m*r.sz)(hm:m=ys.length)(D:kD E.N G xs (ys.map (Z r))):cH E O G ⟨dst,.build t (Bm 0 xs).toArray,ty,pos,after,g⟩ (Z (qD r m) ys):=
 .of_pure fun a w S _ _ hF=>by
  obtain⟨zv,hzr,hzc⟩:=tj.zero w
  obtain⟨cs,hc,hfill⟩:=Hj ys (xs.map a.eval) 0 [] z' (D.tys hF) (by simp) (by rw [hz,hm])
  subst hsz
  have hparts:((Bm 0 xs).toArray.map fun(i,x)=>(i,a.eval x)).toList=ET 0 (xs.map a.eval):=by simpa using El a.eval 0 xs
  rw [qo,qo]at hfill
  refine⟨.agg cs.toArray,?_,cs,rfl,hm.symm,hc⟩
  simp only [execOp,Instr.build,sA,hzr,tJ,jZ M,ti.sizeOf,hzc,hparts,hfill]
  simp
end
end Go.Proofs.YthbdkceckjihgaaGreatDoor

