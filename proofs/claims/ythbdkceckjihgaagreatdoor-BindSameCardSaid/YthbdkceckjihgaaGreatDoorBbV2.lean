/- du of this claim: W11, W12, W13, W14, W16, W17, W18, W19, W20, W22, W23, W24, W25, W26, W28, W30, W31, W32. -/
import Derived.Test.YthbdkceckjihgaaGreatDoorBbV1
import Derived.RangeFuncRecord
import Derived.RangeFuncLeaves
import Derived.Laws.StructEq
import Derived.Lib.ConvBytes
import Derived.Lib.AppendZeros
import Derived.Laws.MakeOwn
import Derived.MapKept
import Derived.Scope
import Derived.ChangeKeysEq
set_option linter.all false
namespace Go.Proofs.YthbdkceckjihgaaGreatDoor
open Go

structure MD(P:Program){α:Type} [DecidableEq α](t:TypeId)(r:Rp α):Prop where
 guard:P.eqGuardType P.depth t=false
 run: ∀(S:SH) (cs ds:List Value) (x y:α) (aE:Nat) (w:World),r.rc S cs x->r.rc S ds y->(Op.equalIn (aE+20) t (r.val cs) (r.val ds)).run P w= .ok (decide (x=y)) w
variable{E:En}{G:mK}{O:List OE}{P:Program}{S:SH}{a:Act}{after:Array Edge}{agg:Bool}{dst:Option Tmp}{g:Option (Nat×Bool)}{α:Type}{m n:Nat}{pos:String}{r:Rp α}{γ:Type}{t:TypeId}{u:Rp γ}{w:World}{x:Operand}{xt:TypeId}{y:α}{yt:TypeId}
section
variable{ty:TypeId}
def ER{P:Program}{t:TypeId}(h:P.eqGuardType P.depth t=false){op:BinOp}{x y:Operand}{u v:Array Value}{w:World}:(eqGuard op t x y (.agg u) (.agg v)).run P w= .ok () w:=by
 unfold eqGuard
 cases op<;>first|rfl|simp [h]
def uK(h:r.agg=true)(cs:List Value):r.val cs= .agg cs.toArray:=by unfold Rp.val;rw [cz h]
def xU [DecidableEq α]{y:Operand}{m n:α}(he:MD E.P xt r)(A:bf E.N G x (H r m))(hy:bf E.N G y (H r n))(ha:r.agg=true:=by rfl):cE E O G ⟨dst,.binOp .eql xt x y yt,ty,pos,after,g⟩ (H rB (decide (m=n))):=
 .of_pure fun a w S _ _ hf=>by
  obtain⟨cs,V,Z⟩:=A S a hf
  obtain⟨ds,h3,h4⟩:=hy S a hf
  refine⟨.bool (decide (m=n)),?_,jZ.2 rfl⟩
  have hr:=he.run S cs ds m n 9980 w Z h4
  have D:= @ER E.P xt he.guard .eql x y cs.toArray ds.toArray w
  rw [uK ha,uK ha]at hr
  simp only [execOp,V,h3,uK ha,sq,D,tJ,binOp,Op.equal,Op.maxDepth]
  rw [show(10000:Nat)=9980+20 from rfl,hr]
  simp
def xT [DecidableEq α]{y:Operand}{m n:α}(he:MD E.P xt r)(A:bf E.N G x (H r m))(hy:bf E.N G y (H r n))(ha:r.agg=true:=by rfl):cE E O G ⟨dst,.binOp .neq xt x y yt,ty,pos,after,g⟩ (H rB (!decide (m=n))):=
 .of_pure fun a w S _ _ hf=>by
  obtain⟨cs,V,Z⟩:=A S a hf
  obtain⟨ds,h3,h4⟩:=hy S a hf
  refine⟨.bool (!decide (m=n)),?_,jZ.2 rfl⟩
  have hr:=he.run S cs ds m n 9980 w Z h4
  have D:= @ER E.P xt he.guard .neq x y cs.toArray ds.toArray w
  rw [uK ha,uK ha]at hr
  simp only [execOp,V,h3,uK ha,sq,D,tJ,binOp,Op.equal,Op.maxDepth]
  rw [show(10000:Nat)=9980+20 from rfl,hr]
  simp
end

variable{B:Nat->Prop}{S' :SH}{b base:Nat}{e:Exit}{f:FuncId}{k:IntKind}{w' :World}
def uW(h:dI base B w S O)(k:lr wm w S w' S'){e:OE}(he:e.p w' S')(hn: ∀b,e.fp b->w.heap.size<=b)(Y:base<=w.heap.size:=by first|assumption|exact St.base_le (by assumption)):dI base B w' S' (e::O):=
 ⟨⟨he,fun b hb' => .inl (oc Y (hn b hb'))⟩,fun f hf b hb' hfb=>by
  have:=f.here (dI.mem h f hf).1 b hfb
  have:=hn b hb'
  omega,h.ext0 k⟩
def jE(P:Program)(f:FuncId)(ts:List Ty)(mm:Bool){α:Type}(r:Rp α)(T:TypeId)(xs:List α):Prop:=
 ∀w S vs,mT w S->AR S ts vs->Calls P f vs.toArray w fun e w' => ∃l cap S',e= .returned (J l cap xs.length)/\lr wm w S w' S' /\mT w' S' /\(mj mm r T l cap xs).holds w.heap.size wm w' S'
variable{T:TypeId}{cap:Nat}{l:Option Nat}{mm:Bool}{xs:List α}
def Nb(h:(mj mm r T l cap xs).holds w.heap.size wm w' S')(he:lr wm w S w' S')(hs:mT w' S'):
  ∃S'',lr wm w S w' S'' /\mT w' S'' /\(H (eO r) xs).p S'' (J l cap xs.length):=by
 have st:St ⟨default,⟨0,[]⟩,wm,w,S,none⟩ [mj mm r T l cap xs] [] ⟨#[],[]⟩ w' S' :=⟨he,hs,⟨h,fun _ hf=>(by cases hf),trivial⟩,⟨rfl,rfl,fun _ _ h=>(by simp [look]at h)⟩⟩
 obtain⟨S'',V,Z⟩:=st.settle
 exact⟨S'',V.ext,V.sat,Z⟩
variable{ts:List Ty}
def jE.spec(h:jE P f ts mm r T xs):cI P f ts (H (eO r) xs):=fun w S vs hs hv=>
 (h w S vs hs hv).mono fun e w' ⟨l,cap,S',he,V,Z,h3⟩=>by
  obtain⟨S'',h4,h5,h6⟩:=Nb h3 V Z
  exact⟨_,S'',he,h4,h5,h6⟩
def aaB(E:En)(mm:Bool){α:Type}(r:Rp α)(T:TypeId)(xs:List α):Ending->World->Prop:=fun e w' => ∃l cap S',e= .returned (J l cap xs.length)/\lr E.B E.w0 E.S0 w' S' /\mT w' S' /\(mj mm r T l cap xs).holds E.w0.heap.size E.B w' S'
variable{N:Nat}{S0:SH}{c:Code}{fn:Func}{w0:World}
def jE.of(hf:P.funcs[f]? =some fn)(Y:fn.body=some c)(hN:fn.ntmps=N)(hn:Nat.ble ts.length N=true)(h: ∀w0 S0,CG ⟨P,⟨N,[]⟩,wm,w0,S0,none⟩ (bodyPost P fn (aaB ⟨P,⟨N,[]⟩,wm,w0,S0,none⟩ mm r T xs)) c [] (Bb 0 ts)):jE P f ts mm r T xs:=by
 subst hN
 intro w S vs hs hv
 exact yu.1 (callsIn_of_wp (F:=fw none) (n:=0) hf Y trivial (h w S _ w S ⟨lr.refl _ _ _,hs,trivial,BR hv _ (ul hn)⟩))
variable{ah:Exit->Act->World->Prop}{ats:Array TypeId}{bytes aE:Nat}{ops:Array Oper}{rest:List Oper}{sz:Nat}{ys:List α}{z:List Value}
section
def m6{k:Nat}(hr:fn.results= #[.tmp k])(hk:look G k=some (tV (J l cap n)))(hn:n=xs.length:=by rfl):
  AT ⟨P,⟨N,[]⟩,B,w0,S0,none⟩ (bodyPost P fn (aaB ⟨P,⟨N,[]⟩,B,w0,S0,none⟩ mm r T xs)) .ret (mj mm r T l cap xs::O) G:=fun a w S st=>by
 subst hn
 have hv:a.tmps.getD k undef=J l cap xs.length:=st.facts.at_ k _ hk
 exact⟨st.facts.defers,_,uv P fn k hr _ _,l,cap,S,by rw [hv],st.ext,st.sat,st.own.1⟩
section
variable{ty:TypeId}
def RU{xs:List Operand}{u:Nat->Option Nat->Ty}(hc:ak E.P f=true)(hs:jE E.P f ts mm r T ys)(A:kL E.N G xs ts)(hd:Nat.blt aE E.N.n=true)(hu: ∀l cap w0 S,(mj mm r T l cap ys).p w0 S->(u cap l).p S (J l cap ys.length))(k: ∀l cap,RG E ops ah rest (mj mm r T l cap ys::O) ((aE,u cap l)::G)):
  RG E ops ah (⟨some aE,.call ⟨.value (.func f),xs.toArray,ats⟩,ty,pos,after,none⟩::rest) O G:= .of rfl fun a w S st=>by
 have hr:(execOp a.eval ⟨some aE,.call ⟨.value (.func f),xs.toArray,ats⟩,ty,pos,after,none⟩).run E.P w= .ok (.enter f (xs.map a.eval).toArray) w:=by
  simp [execOp,resolve,Act.eval,Deferred.ofValue,invoke,ko hc]
 refine⟨fun c h=>(by cases h),?_⟩
 rw [hr]
 refine(hs w S _ st.sat (A.tys st.facts)).mono fun e w' ⟨l,cap,S',he,V,Z,h3⟩=>⟨_,he,?_⟩;refine k l cap _ _ S' ⟨st.ext.step0 V,Z,uW st.own V h3.1 (fun b Y=>(h3.2 b Y).resolve_right id) st.base_le,(st.facts.mono V.keep).put hd (hu l cap w' S' h3.1)⟩
def Uo{xs:List Operand}(hc:ak E.P f=true)(hs:jE E.P f ts false r T ys)(A:kL E.N G xs ts)(hd:Nat.blt aE E.N.n=true)(k: ∀l cap,RG E ops ah rest (gb r T l cap ys::O) ((aE,tV (J l cap ys.length))::G)):
  RG E ops ah (⟨some aE,.call ⟨.value (.func f),xs.toArray,ats⟩,ty,pos,after,none⟩::rest) O G:=RU (u:=fun cap l=>tV (J l cap ys.length)) hc hs A hd (fun _ _ _ _ _=>rfl) k
def jh{xs:List Operand}{parts:List (Nat×Operand)}(M:E.P.underlying t=some (.slice T))(ti:TI E.P T sz bytes agg z)(hsz:r.sz=sz)(h0:Nat.blt 0 sz=true)(hp:parts=Bd 0 xs)(hn:n=ys.length)(Y:Nat.ble (n*sz) 16777216=true)(A:kL E.N G xs (ys.map (H r)))(hd:Nat.blt aE E.N.n=true)(k: ∀l cap,RG E ops ah rest (gb r T l cap ys::O) ((aE,tV (J l cap ys.length))::G)):
  RG E ops ah (⟨some aE,.buildSlice t n parts.toArray,ty,pos,after,none⟩::rest) O G:= .of rfl fun a w S st=>by
 obtain⟨cs,hc,hr⟩:=zq M ti hsz hn Y (A.tys st.facts) w
 subst hsz
 subst hp
 have hb' :=ul Y
 have h0' :0<r.sz:=by simpa [tK] using h0
 have hnle:n<=n*r.sz:=Nat.le_mul_of_pos_right n h0'
 have hcl:=mF hc
 obtain⟨he,hs',hno⟩:=lH (w:=w) (.cells cs.toArray T (0,0)) st.sat
 have hrun:(execOp a.eval ⟨some aE,.buildSlice t n (Bd 0 xs).toArray,ty,pos,after,none⟩).run E.P w= .ok (.value (.slice (some ⟨w.heap.size,0,none⟩) n n)) (w.alloc (.cells cs.toArray T (0,0))):=by
  simp only [execOp,sq,hr,tJ,EB]
 refine⟨fun c h=>(by cases h),?_⟩
 rw [hrun]
 refine k (some w.heap.size) n _ _ S ⟨st.ext.step0 he,hs',uW st.own he ⟨cs,⟨cs.toArray,AS w _,by omega,by simp only [maxLen];omega,by simp [hcl,hn],by simp [<-hcl]⟩,hc,fun b Y=>by rw [<-ro Y];exact hno⟩ (fun b Y=>Ey (ro Y)) st.base_le,st.facts.put hd ?_⟩
 ·show _=J _ _ _
  rw [<-hn];rfl
end
end

def an(b off:Nat):Value:= .pointer (some ⟨b,off,none⟩)
def bx{α:Type}(r:Rp α)(T:TypeId)(b:Nat)(x:α):OE where
 fp:=fun k=>k=b
 p:=fun w S=>S b=none/\ ∃c,w.heap[b]? =some (.cells c T (0,0))/\r.rc S c.toList x
 here:=by
  intro w S h k hk
  subst hk
  obtain⟨V,c,Z,_⟩:=h
  exact(Bq.1 Z).1
 kept:=by
  intro C w w' S S' h k hC
  obtain⟨V,c,Z,h3⟩:=h
  have hlt:=(Bq.1 Z).1
  exact⟨by rw [k.old b hlt (hC b rfl)];exact V,c,by rw [k.heap b hlt (hC b rfl)];exact Z,r.mono k.keep h3⟩
def rV:Rp Value where
 sz:=1
 agg:=false
 rc:=fun _ cs v=>cs=[v]/\v.oneCell' =true
 mono:=fun _ h=>h
 len:=fun h=>by rw [h.1];rfl
 one:=fun h c hc=>by rw [h.1]at hc;simp at hc;subst hc;exact h.2
 sc:=fun _=>rfl
def Cv{u:Value}{v:Value}:(H rV u).p S v↔v=u/\u.oneCell' =true:=by
 constructor
 ·rintro⟨cs,rfl,V,Z⟩;subst V;exact⟨rfl,Z⟩
 ·rintro⟨rfl,h⟩;exact⟨[v],rfl,rfl,h⟩
def eS{α β:Type}(r:Rp α)(off:Nat)(q:Rp β)(set:α->β->α):Prop:= ∀S cs x ds y,r.rc S cs x->q.rc S ds y->r.rc S (cs.take off++ds++cs.drop (off+q.sz)) (set x y)
variable{U:TypeId}{β:Type}{get:α->β}{i:Nat}{o:Oper}{off:Nat}{q:Rp β}{set:α->β->α}
section
def St.settleB{k:Nat}{x:α}(h:St E (bx r T b x::O) G a w S)(hk:look G k=some (tV (an b 0))): ∃S',St E O ((k,bt r x)::G) a w S' :=by
 obtain⟨⟨hn,cur,h3,h4⟩,_⟩:=h.own.1
 obtain⟨h8,hle,_,_⟩:=BD h rfl h3 (xh _) hn
 have hv:a.tmps.getD k undef=an b 0:=h.facts.at_ k _ hk
 refine⟨_,h8.cons ⟨b,0,cur,T,(0,0),hv,by simp [SH.set],?_⟩⟩
 have hl:cur.size=r.sz:=by have:=r.len h4;simpa using this
 have:=r.mono hle h4
 rw [sC,rt (by simp [hl])];exact this
def aK{x:α}(k:Nat)(hk:look G k=some (tV (an b 0)))(h:RG E ops ah rest O ((k,bt r x)::G)):RG E ops ah rest (bx r T b x::O) G:=
 fun a w _ st=>let⟨S',st'⟩:=st.settleB hk;h a w S' st'
def cn{x:α}(k:Nat)(hk:look G k=some (tV (an b 0)))(h:AT E ah e O ((k,bt r x)::G)):AT E ah e (bx r T b x::O) G:=
 fun a w _ st=>let⟨S',st'⟩:=st.settleB hk;h a w S' st'
section
variable{ty:TypeId}
def aV{x:α}(ti:TI E.P T sz bytes agg z)(A: ∀S,r.rc S z x)(hd:Nat.blt aE E.N.n=true)(k: ∀b,RG E ops ah rest (bx r T b x::O) ((aE,tV (an b 0))::G)):RG E ops ah (⟨some aE,.alloc T,ty,pos,after,none⟩::rest) O G:= .of rfl fun a w S st=>by
 obtain⟨zv,hzr,hzc⟩:=ti.zero w
 obtain⟨he,hs',hno⟩:=lH (w:=w) (.cells z.toArray T (0,0)) st.sat
 have hrun:(execOp a.eval ⟨some aE,.alloc T,ty,pos,after,none⟩).run E.P w= .ok (.value (an w.heap.size 0)) (w.alloc (.cells z.toArray T (0,0))):=by
  simp [execOp,Instr.alloc,hzr,newVar,newRow,hzc,an]
 refine⟨fun c h=>(by cases h),?_⟩
 rw [hrun]
 exact k w.heap.size _ _ S ⟨st.ext.step0 he,hs',uW st.own he ⟨hno,z.toArray,AS w _,by simpa using A S⟩ (fun b Y=>Ey Y.symm) st.base_le,st.facts.put hd rfl⟩
def AB{v:α}(A:bf E.N G x (H r v))(hd:Nat.blt aE E.N.n=true)(k: ∀b,RG E ops ah rest (bx r T b v::O) ((aE,tV (an b 0))::G)):RG E ops ah (⟨some aE,.box T x,ty,pos,after,none⟩::rest) O G:= .of rfl fun a w S st=>by
 obtain⟨cs,hv,hc⟩:=A S a st.facts
 obtain⟨he,hs',hno⟩:=lH (w:=w) (.cells cs.toArray T (0,0)) st.sat
 have hrun:(execOp a.eval ⟨some aE,.box T x,ty,pos,after,none⟩).run E.P w= .ok (.value (an w.heap.size 0)) (w.alloc (.cells cs.toArray T (0,0))):=by
  simp [execOp,Instr.box,newVar,newRow,hv,xb hc,an]
 refine⟨fun c h=>(by cases h),?_⟩
 rw [hrun]
 exact k w.heap.size _ _ S ⟨st.ext.step0 he,hs',uW st.own he ⟨hno,cs.toArray,AS w _,by simpa using hc⟩ (fun b Y=>Ey Y.symm) st.base_le,st.facts.put hd rfl⟩
def ne(hs:mT w S)(f f' :OE)(h:dI base B w S (f::O))(hf: ∀k,f.fp k↔k=b)(hf' : ∀k,f'.fp k↔k=b)(D:w'.os=w.os/\w'.tape=w.tape/\w'.output=w.output/\w'.heap.size=w.heap.size/\w.drawn<=w'.drawn)(ho: ∀k,k≠b->w'.heap[k]? =w.heap[k]?)(hp:f'.p w' S)(hno:S b=none):lr (fun k=>k=b) w S w' S/\mT w' S/\dI base B w' S (f' ::O):=by
 have hext:lr (fun k=>k=b) w S w' S:=⟨D.1,D.2.1,D.2.2.1,D.2.2.2.2,by omega,fun k _ hk=>ho k hk,SH.le_refl _,fun _ _ _=>rfl⟩
 refine⟨hext,hs.same fun k o hk=>?_,⟨hp,fun k hk=>h.1.2 k ((hf k).2 ((hf' k).1 hk))⟩,fun g hgm k hk=>h.2.1 g hgm k ((hf k).2 ((hf' k).1 hk)),h.2.2.ext hext fun g hgm k hk hkb=>h.2.1 g hgm k ((hf k).2 hkb) hk⟩
 have hne:k≠b:=fun e=>by subst e;rw [hno]at hk;cases hk
 exact ho k hne
def jT{q:Rp α}(ti:TI P U sz bytes agg z)(hsz:q.sz=sz){ds:List Value}(hy:q.rc S ds y){cur:Array Value}(D:w.heap[b]? =some (.cells cur T (0,0)))(hfit:off+q.sz<=cur.size):
  ∃w',(storeVar U ⟨b,off,none⟩ (q.val ds)).run P w= .ok () w' /\w'.os=w.os/\w'.tape=w.tape/\w'.output=w.output/\(w'.heap.size=w.heap.size/\w.drawn<=w'.drawn)/\w'.heap[b]? =some (.cells (cur.toList.take off++ds++cur.toList.drop (off+q.sz)).toArray T (0,0))/\ ∀k,k≠b->w'.heap[k]? =w.heap[k]? :=by
 have hl:=q.len hy
 have hst:=run_storeCells_at P b off T ds 0 cur w D (by omega) (q.one hy)
 simp only [FU]at hst
 refine⟨w.setRow b (cur.toList.take off++ds++cur.toList.drop (off+ds.length)).toArray,?_,rfl,rfl,rfl,⟨?_,gc _⟩,?_,fun k hk=>setRow_other w b k _ hk⟩
 ·generalize (cur.toList.take off++ds++cur.toList.drop (off+ds.length)).toArray=X at hst ⊢
  simp only [storeVar,sq,ti.sizeOf,tJ,xb hy,FX,hl,hsz]
  simp only [ne_eq,not_true_eq_false,jQ]
  simpa using hst
 ·simp [World.setRow]
 ·rw [setRow_heap w b cur _ T _ D,<-hl]
def mw{x:α}{y:β}{p v:Operand}(ti:TI E.P U sz bytes agg z)(hsz:q.sz=sz)(hset:eS r off q set)(hoff:Nat.ble (off+q.sz) r.sz=true)(hp:bf E.N G p (tV (an b off)))(hv:bf E.N G v (H q y))(k:RG E ops ah rest (bx r T b (set x y)::O) G):RG E ops ah (⟨none,.store U p v,ty,pos,after,none⟩::rest) (bx r T b x::O) G:= .of rfl fun a w S st=>by
 have V:a.eval p=an b off:=hp S a st.facts
 obtain⟨ds,Z,h3⟩:=hv S a st.facts
 obtain⟨⟨hno,cur,h5,h6⟩,_⟩:=st.own.1
 have hl:=r.len h6
 have hoff' :=ul hoff
 obtain⟨w',hr,e1,e2,e3,e4,e5,e6⟩:=jT ti hsz h3 h5 (off:=off) (by simp at hl;omega)
 have hrun:(execOp a.eval ⟨none,.store U p v,ty,pos,after,none⟩).run E.P w= .ok .skip w' :=by
  simp [execOp,V,Z,Instr.storeAt,an,Instr.sureAddr,hr]
 refine⟨fun c h=>(by cases h),?_⟩
 rw [hrun]
 obtain⟨g1,g2,g3⟩:=ne (O:=O) st.sat (bx r T b x) (bx r T b (set x y)) st.own (fun _=>vl) (fun _=>vl) ⟨e1,e2,e3,e4.1,e4.2⟩ e6 ⟨hno,_,e5,by simpa using hset S _ _ _ _ h6 h3⟩ hno
 exact k _ _ S ⟨st.ext.step g1 (fun c hc=>st.own.1.2 c hc),g2,g3,st.facts⟩
def aj:eS r 0 r (fun _ y=>y):=fun S cs x ds y V Z=>by
 have hl:=r.len V
 simpa [<-hl] using Z
end
section
variable{ty:TypeId}
def H8{o:Nat}{p:Operand}(hf:bP E.P T i=some (off,sz))(h0:Nat.beq sz 0=false)(hp:bf E.N G p (tV (an b o))):cE E O G ⟨dst,.fieldAddr T p i,ty,pos,after,g⟩ (tV (an b (o+off))):=
 .of_pure fun a w S _ _ hF=>by
  have V:a.eval p=an b o:=hp S a hF
  obtain⟨fs,f,e1,e2,e3,e4⟩:=DO hf
  have h0' :sz≠0:=fun e=>by subst e;simp at h0
  refine⟨an b (o+off),?_,rfl⟩
  simp [execOp,V,an,Instr.fieldAt,ka e1,e2,Instr.sureAddr,fieldPlace,e4,h0',e3,jD]
def bB{x:α}{p:Operand}(ti:TI E.P U sz bytes agg z)(hsz:q.sz=sz)(hag:q.agg=agg)(hget:jn r off q get)(hm:bx r T b x∈O)(hp:bf E.N G p (tV (an b off))):
  cE E O G ⟨dst,.load U p,ty,pos,after,g⟩ (H q (get x)):=
 .of_pure fun a w S _ ho hf=>by
  have V:a.eval p=an b off:=hp S a hf
  obtain⟨⟨_,cur,h5,h6⟩,_⟩:=ho.mem _ hm
  have h7:=hget S _ _ h6
  refine⟨_,?_,_,rfl,h7⟩
  simp [execOp,V,an,Instr.loadAt,Instr.sureAddr,lT ti h5 hsz hag h7]
def cD:jn r 0 r (fun x=>x):=fun S cs x h=>by
 have hl:=r.len h
 simpa [<-hl] using h
end
end

def cN{p:Rp α}:eS (ck p q) 0 p (fun x y=>(y,x.2)):=fun S cs x ds y h k=>by
 obtain⟨a,b,e,V,Z⟩:=h
 have hl:=p.len V
 refine⟨ds,b,?_,k,Z⟩
 rw [e,<-hl];simp
variable{s:Rp γ}
def aB{p:Rp α}{off' :Nat}{u:β->γ->β}(h:eS q off s u)(ho:off' =p.sz+off):eS (ck p q) off' s (fun x y=>(x.1,u x.2 y)):=fun S cs x ds y A hy=>by
 obtain⟨a,b,e,V,Z⟩:=A
 have hl:=p.len V
 refine⟨a,b.take off++ds++b.drop (off+s.sz),?_,V,h S b x.2 ds y Z hy⟩
 rw [e,ho,<-hl,List.take_length_add_append,show a.length+off+s.sz=a.length+(off+s.sz)from by omega,List.drop_length_add_append]
 simp
def bT{p:Rp α}{q:Rp γ}{u:α->γ->α}{f:β->α}{set:β->γ->β}(h:eS p off q u)(hf: ∀x y,f (set x y)=u (f x) y):eS (kp p f) off q set:=fun S cs x ds y A hy=>by
 show p.rc S _ (f (set x y))
 rw [hf]
 exact h S cs (f x) ds y A hy
def gR(P:Program)(T:TypeId):Option (List (Nat×Nat)):=
 match P.underlying T with
 |some (.struct fs)=>fs.toList.mapM fun f=>(P.info? f.type).map fun q=>(f.offset,q.size)
 |_=>none
def Gw{P:Program}: ∀(fs:List Field) (ps:List (Nat×Nat)) (w:World),fs.mapM (fun f=>(P.info? f.type).map fun q=>(f.offset,q.size))=some ps->
  (fs.mapM (fun f=>do pure (f.offset,<-sizeOf f.type):Field->Sem (Nat×Nat))).run P w= .ok ps w
 |[],ps,w,h=>by
  simp at h;subst h
  simp
 |f::fs,ps,w,h=>by
  simp only [List.mapM_cons]at h ⊢
  cases hq:P.info? f.type with
  |none=>simp [hq]at h
  |some q=>
   cases hr:fs.mapM (fun f=>(P.info? f.type).map fun q=>(f.offset,q.size))with
   |none=>simp [hq,hr]at h
   |some qs=>
    simp [hq,hr]at h
    subst h
    have ih:=Gw fs qs w hr
    simp [sizeOf,typeInfo,hq]at ih ⊢
    simp [ih]
section
variable{ty:TypeId}
def BP(E:En)(G:mK){α:Type}(r:Rp α)(ps:List (Nat×Nat)):α->List (Nat×Operand)->α->Prop
 |x,[],y=>x=y
 |x,(i,o)::rest,y=> ∃(β:Type) (q:Rp β) (set:α->β->α) (off:Nat) (v:β),ps[i]? =some (off,q.sz)/\eS r off q set/\Nat.ble (off+q.sz) r.sz=true/\bf E.N G o (H q v)/\BP E G r ps (set x v) rest y
def He{α:Type}{r:Rp α}{ps:List (Nat×Nat)}{S:SH}{a:Act}(hF:du E.N S a G): ∀(parts:List (Nat×Operand)) (x y:α) (cs:List Value),BP E G r ps x parts y->r.rc S cs x->
  ∃ds,r.rc S ds y/\Instr.fill (ps.toArray[·]?) cs.toArray (parts.map fun p=>(p.1,a.eval p.2))=some ds.toArray
 |[],x,y,cs,h,A=>by
  have e:x=y:=h
  subst e
  exact⟨cs,A,rfl⟩
 |(i,o)::rest,x,y,cs,⟨β,q,set,off,v,V,Z,h3,h4,h5⟩,A=>by
  obtain⟨c,hv,hc⟩:=h4 S a hF
  have hl:=q.len hc
  have hlr:=r.len A
  have h3' :=ul h3
  have hcells:(a.eval o).cells=c.toArray:=by rw [hv];exact xb hc
  obtain⟨ds,h6,h7⟩:=He hF rest _ y _ h5 (Z S cs x c v A hc)
  refine⟨ds,h6,?_⟩
  have hps:ps.toArray[i]? =some (off,q.sz):=by simpa using V
  have hs:(a.eval o).cells.size=q.sz:=by rw [hcells];simpa using hl
  have h8:=Cw (a.eval o) off (cs.take off) ((cs.drop off).take q.sz) (cs.drop (off+q.sz)) (by rw [hs];simp;omega) (by simp;omega)
  have e1:cs.take off++(cs.drop off).take q.sz++cs.drop (off+q.sz)=cs:=by
   rw [gK,<-xH,uH,uH]
  rw [e1]at h8
  simp only [uG,Instr.fill,hps]
  rw [cr (by simp [hs,hlr];omega),h8,hcells]
  simpa using h7
def bU{x:α}{parts:List (Nat×Operand)}{ps:List (Nat×Nat)}(ti:TI E.P T sz bytes agg z)(hp:gR E.P T=some ps)(hz: ∀S,r.rc S z x)(Y:BP E G r ps x parts y)(ha:r.agg=true:=by rfl):
  cE E O G ⟨dst,.build T parts.toArray,ty,pos,after,g⟩ (H r y):=
 .of_pure fun a w S _ _ hF=>by
  obtain⟨zv,hzr,hzc⟩:=ti.zero w
  obtain⟨ds,V,Z⟩:=He hF parts x y z Y (hz S)
  unfold gR at hp
  split at hp
  ·rename_i fs hu
   have hpl:=Gw fs.toList ps w hp
   have hpl2:(fs.mapM (fun f=>do pure (f.offset,<-sizeOf f.type):Field->Sem (Nat×Nat))).run E.P w= .ok ps.toArray w:=by
    have hfs:fs=fs.toList.toArray:=by simp
    generalize fs.toList=l at hfs hpl
    subst hfs
    rw [List.mapM_toArray,Sem.run_map,hpl]
    rfl
   refine⟨.agg ds.toArray,?_,ds,(uK ha ds).symm,V⟩
   simp only [execOp,Instr.build,sq,hzr,tJ,ka hu,hpl2,hzc]
   have hm:(parts.toArray.map fun(i,x)=>(i,a.eval x)).toList=parts.map fun p=>(p.1,a.eval p.2):=by simp
   rw [hm,Z]
   simp
  ·cases hp
end
section
def sm{k:Nat}{x:α}(hr:fn.results= #[.cell k T])(ti:TI P T sz bytes agg z)(hsz:r.sz=sz)(hag:r.agg=agg)(hk:look G k=some (bt r x)):
  AT ⟨P,⟨N,[]⟩,B,w0,S0,none⟩ (bodyPost P fn (N1 ⟨P,⟨N,[]⟩,B,w0,S0,none⟩ (H r x))) .ret O G:=fun a w S st=>by
 obtain⟨b,off,c,U,fr,V,Z,h3⟩:=st.facts.at_ k _ hk
 obtain⟨c',h4,h5⟩:=st.sat.part Z (r.len h3)
 rw [<-h5]at h3
 refine⟨st.facts.defers,r.val ((c'.toList.drop off).take r.sz),?_,_,S,rfl,st.ext,st.sat,_,rfl,h3⟩
 have hl:=lT ti h4 hsz hag h3
 have h1' :a.tmps[k]?.getD undef=Value.pointer (some ⟨b,off,none⟩):=by simpa [KC] using V
 simp [results,hr,h1',asAddr,hl]
end

def oP(L:List Oper):Nat->Nat->Nat->Bool
 |0,_,_=>false
 |n+1,i,j=>match L[i]? with
  |some o=>o.after.toList.any fun e=>Region.binds .any e&&(Nat.beq e.on j||oP L n e.on j)
  |none=>false
def yo(L:List Oper)(m:Nat):Bool:=(List.range m).all fun j=>oP L L.length m j
def A1(L:List Oper)(n k:Nat):Bool:=(List.range k).all fun m=>yo L (n+m)&&(match L[n+m]? with|some o=>fx (n+m) o&&o.guard.isNone|none=>false)
variable{L:List Oper}{done:Array Bool}{hi j:Int}
def hM{L:List Oper}{done:Array Bool}(down: ∀j o,L[j]? =some o->done.getD j false=true-> ∀e∈o.after,Region.binds .any e=true->done.getD e.on false=true):
  ∀(n i j:Nat),(∀o,L[i]? =some o-> ∀e∈o.after,Region.binds .any e=true->done.getD e.on false=true)->oP L n i j=true->done.getD j false=true
 |0,_,_,_,h=>by cases h
 |n+1,i,j,hi,h=>by
  unfold oP at h
  cases ho:L[i]? with
  |none=>rw [ho]at h;cases h
  |some o=>
   rw [ho]at h
   obtain⟨e,he0,Y⟩:=EZ.1 h
   have he:e∈o.after:=by simpa using he0
   rw [jR,y7]at Y
   have hd:=hi o ho e he Y.1
   rcases Y.2 with V|V
   ·rw [<-qL V];exact hd
   ·exact hM down n e.on j (fun p hp=>down e.on p hp hd) V
def DJ.stepT{l:List Oper}(h:DJ E O G l ts done a w S){t:Ty}{v:Value}(hi:l[i]? =some o)(hd:o.dst=some aE)(hdN:aE<E.N.n)(hs2: ∀j p,l[j]? =some p->done.getD j false=true->p.dst=some aE->i=j)(hwait: ∀e∈o.after,Region.binds .any e=true->done.getD e.on false=true)(M:ts[i]? =some t)(hun:done.getD i true=false)(hext:lr wm w S w' S')(hsat:mT w' S')(hv:t.p S' v):DJ E O G l ts (done.setIfInBounds i true) (a.put o.dst v) w' S' :=by
 have hda:aE<a.tmps.size:=by rw [h.size];exact hdN
 have hlt:i<done.size:=by rw [h.dsz];exact(ui.1 hi).1
 have hset: ∀j,(done.setIfInBounds i true).getD j false=true->j=i\/done.getD j false=true:=fun j hj=>by
  by_cases hij:i=j
  ·exact .inl hij.symm
  ·rw [yC false hij]at hj;exact .inr hj
 have hseti:(done.setIfInBounds i true).getD i false=true:=by simp [hlt]
 have hun' :done.getD i false=false:=by simp [hlt]at hun ⊢;exact hun
 refine⟨h.ext.step0 hext,hsat,h.own.ext0 hext,?_,?_,by simp [h.dsz],fun j p hj hdone e he Y=>?_,fun k u hk hno=>?_,fun j p d' u hj hdone hd' hu=>?_⟩
 ·rw [hd];simp [Act.put,h.size]
 ·rw [hd];exact h.defers
 ·rcases hset j hdone with rfl|hj'
  ·rw [hi]at hj
   have:o=p:=by simpa using hj
   subst this
   exact AF (hwait e he Y)
  ·exact AF (h.down j p hj hj' e he Y)
 ·have hne:aE≠k:=fun e=>hno i o hi hseti (by rw [hd,e])
  rw [hd,wh hda,cr hne]
  exact u.mono hext.keep (h.old k u hk fun j p hj hdone=>hno j p hj (AF hdone))
 ·rw [hd,wh hda]
  rcases hset j hdone with rfl|hj'
  ·rw [hi]at hj
   have:o=p:=by simpa using hj
   subst this
   rw [hd]at hd'
   have:aE=d' :=by simpa using hd'
   subst this
   rw [cz rfl]
   rw [M]at hu
   have:t=u:=by simpa using hu
   subst this
   exact hv
  ·have hne:aE≠d' :=fun e=>by
    subst e
    have:=hs2 j p hj hj' hd'
    subst this
    rw [hj']at hun';cases hun'
   rw [cr hne]
   exact u.mono hext.keep (h.new j p d' u hj hj' hd' hu)
def pS(h:i<done.size):done.getD i true=done.getD i false:=by simp [h]
def v6(h:mL done=0)(hi:i<done.size):done.getD i false=true:=by
 unfold mL at h
 rw [List.countP_eq_zero]at h
 have Z:done[i]∈done.toList:=by simp
 have:=h _ Z
 rw [<-pS hi]
 simpa [hi] using this
def Bs{r:Option Nat}(hc: ∀m o,n<=m->L[m]? =some o->yo L m=true)(hedge: ∀m o,L[m]? =some o->fx m o=true):
  ∀(rest:List Oper) (m:Nat) (done:Array Bool) (fuel:Nat) (a:Act) (w:World),n<=m->L.drop m=rest->done.size=L.length->(∀j,j<L.length->(done.getD j false=true↔j<m))->mL done=fuel->
   wpListIn (fw r) 0 P L.toArray ah rest a w->wpAnyIn (fw r) 0 P .any L.toArray ah fuel done a w:=by
 intro rest
 induction rest with
 |nil=>
  intro m done fuel a w hnm hdrop hsz hdone hu h
  have hlen:L.length<=m:=KH.1 hdrop
  have hr:Region.ready .any L.toArray done=[]:=by
   cases hr:Region.ready .any L.toArray done with
   |nil=>rfl
   |cons i r=>
    have hm:i∈Region.ready .any L.toArray done:=by rw [hr];exact oa ..
    obtain⟨hun,o,ho,_⟩:=vm.1 hm
    have hi:i<L.length:=by simpa using (Bq.1 ho).1
    have:=(hdone i hi).2 (by omega)
    rw [pS (by omega)]at hun
    rw [hun]at this;cases this
  cases fuel with
  |zero=>exact⟨hr,h⟩
  |succ f=>exact⟨fun _=>h,fun i hi=>by rw [hr]at hi;cases hi⟩
 |cons o rest ih=>
  intro m done fuel a w hnm hdrop hsz hdone hu h
  have hm:m<L.length:=by
   rcases oE m L.length with h' |h'
   ·exact h'
   ·rw [KH.2 h']at hdrop;cases hdrop
  have hLm:L[m]? =some o:=by
   have:=yX (xs:=L) (i:=m) (j:=0)
   rw [hdrop]at this
   simpa using this.symm
  have hmu:done.getD m true=false:=by
   have hnot: ¬(done.getD m false=true):=fun Z=>by have:=(hdone m hm).1 Z;omega
   rw [pS (by omega)]
   exact Dv _▸hnot
  have honly: ∀i∈Region.ready .any L.toArray done,i=m:=by
   intro i hi
   obtain⟨hun,p,hp,hwait⟩:=vm.1 hi
   have hp' :L[i]? =some p:=by simpa using hp
   have hil:i<L.length:=(ui.1 hp').1
   have hid: ¬i<m:=fun hlt=>by
    have Z:=(hdone i hil).2 hlt
    rw [pS (by omega)]at hun
    rw [hun]at Z;cases Z
   rcases oE m i with hlt|hge
   ·exfalso
    have hcov:=hc i p (by omega) hp'
    unfold yo at hcov
    have hre:=pG.1 hcov m (by simpa using hlt)
    have:done.getD m false=true:=by
     refine hM (L:=L) (done:=done) (fun j q hj hjd e he Y=>?_) _ i m (fun q hq e he Y=>?_) hre
     ·have hjl:j<L.length:=(ui.1 hj).1
      have hjm:=(hdone j hjl).1 hjd
      have:=hedge j q hj
      unfold fx at this
      have:=pG.1 this e (by simpa using he)
      simp only [Y,rn,Bi,tK]at this
      exact(hdone e.on (by omega)).2 (by omega)
     ·have:q=p:=by rw [hp']at hq;simpa using hq.symm
      subst this
      exact hwait e he Y
    have:=(hdone m hm).1 this
    omega
   ·omega
  have hready:m∈Region.ready .any L.toArray done:=by
   rw [vm]
   refine⟨hmu,o,by simpa using hLm,fun e he Y=>?_⟩
   have:=hedge m o hLm
   unfold fx at this
   have:=pG.1 this e (by simpa using he)
   simp only [Y,rn,Bi,tK]at this
   exact(hdone e.on (by omega)).2 this
  cases fuel with
  |zero=>
   have:=v6 hu (i:=m) (by omega)
   have:=(hdone m hm).1 this
   omega
  |succ fuel=>
   refine⟨fun hr=>(by rw [hr]at hready;cases hready),fun i hi=>?_⟩
   have:=honly i hi
   subst this
   have hnext:=fun a w=>ih (i+1) (done.setIfInBounds i true) fuel a w (by omega) (by rw [<-xH,hdrop];rfl) (by simpa using hsz) (fun j hj=>by
    by_cases hij:i=j
    ·subst hij;have:i<done.size:=by omega
     simp [this]
    ·rw [yC false hij,hdone j hj];omega) (by have:=sI hmu;omega)
   unfold wpOpIn
   have hLm' :L.toArray[i]? =some o:=by simpa using hLm
   rw [hLm']
   show if _ then _ else _
   unfold wpListIn at h
   by_cases hw:Region.wanted o (yielded L.toArray a.tmps)=true
   ·rw [cz hw]at h ⊢;exact Oper.wpIn_mono (fun a w hk=>hnext a w hk) h
   ·rw [cr hw]at h ⊢;exact⟨h.1,hnext _ _ h.2⟩
def KM{l t:List Oper}(hsl:xP E.N.n [] l=true)(hlen:ts.length=l.length)(hd:DR E O G (l++t) ts 0 l)(M:A1 (l++t) l.length t.length=true)(hQ: ∀a w S,St E O (Nq l ts G) a w S->wpListIn (fw E.r) 0 E.P (l++t).toArray ah t a w):
  ∀(fuel:Nat) (done:Array Bool) (a:Act) (w:World) (S:SH),mL done=fuel->(∀j,l.length<=j->done.getD j false=false)->DJ E O G (l++t) ts done a w S->wpAnyIn (fw E.r) 0 E.P .any (l++t).toArray ah fuel done a w:=by
 have hL1: ∀i o,i<l.length->(l++t)[i]? =some o->l[i]? =some o:=fun i o hi h=>by rwa [E0 hi]at h
 have hL2: ∀i o,l[i]? =some o->(l++t)[i]? =some o:=fun i o h=>by rw [E0 (ui.1 h).1];exact h
 have htail: ∀m o,l.length<=m->(l++t)[m]? =some o->yo (l++t) m=true/\fx m o=true:=fun m o hm ho=>by
  have hml:m<(l++t).length:=(ui.1 ho).1
  rw [pF]at hml
  unfold A1 at M
  have:=pG.1 M (m-l.length) (by simp;omega)
  rw [show l.length+(m-l.length)=m from by omega,ho]at this
  simp only [jR]at this
  exact⟨this.1,this.2.1⟩
 have hedge: ∀i o,(l++t)[i]? =some o->fx i o=true:=fun i o hi=>by
  rcases oE i l.length with h|h
  ·obtain⟨_,_,_,_,_,h,_⟩:=DR.get l 0 hd i o (hL1 i o h hi)
   simpa using h
  ·exact(htail i o h hi).2
 obtain⟨hs1,hs2⟩:=zj l [] hsl
 have fin: ∀fuel done a w S,mL done=fuel->(∀j,l.length<=j->done.getD j false=false)->DJ E O G (l++t) ts done a w S->(∀i,i<l.length->done.getD i false=true)->wpAnyIn (fw E.r) 0 E.P .any (l++t).toArray ah fuel done a w:=by
  intro fuel done a w S hu hfree h hall
  refine Bs (n:=l.length) (fun m o hm ho=>(htail m o hm ho).1) hedge t l.length done fuel a w (gc _) (by simp) h.dsz (fun j hj=>⟨fun hjd=>?_,fun hlt=>hall j hlt⟩) hu
   (hQ a w S ⟨h.ext,h.sat,h.own,h.size,h.defers,fun j u hj=>?_⟩)
  ·rcases oE j l.length with h' |h'
   ·exact h'
   ·rw [hfree j h']at hjd;cases hjd
  ·rcases IY l ts j u (fun o ho e=>by obtain⟨aE,hd,_⟩:=hs1 o ho;rw [hd]at e;cases e) hlen hj with⟨i,o,V,Z,h3⟩|⟨V,Z⟩
   ·exact h.new i o j u (hL2 i o V) (hall i (ui.1 V).1) Z h3
   ·refine h.old j u V fun i o ho hdn=>?_
    rcases oE i l.length with h' |h'
    ·exact Z o (uk (hL1 i o h' ho))
    ·rw [hfree i h']at hdn;cases hdn
 have lower: ∀done a w S i,(∀j,l.length<=j->done.getD j false=false)->DJ E O G (l++t) ts done a w S->i∈Region.ready .any (l++t).toArray done->l.length<=i-> ∀j,j<l.length->done.getD j false=true:=by
  intro done a w S i hfree h hi hge j hj
  obtain⟨hun,p,hp,hwait⟩:=vm.1 hi
  have hp' :(l++t)[i]? =some p:=by simpa using hp
  have hcov:=(htail i p hge hp').1
  unfold yo at hcov
  have hre:=pG.1 hcov j (by simp;omega)
  exact hM h.down _ i j (fun q hq e he Y=>by
   have:q=p:=by rw [hp']at hq;simpa using hq.symm
   subst this
   exact hwait e he Y) hre
 intro fuel
 induction fuel with
 |zero=>
  intro done a w S hu hfree h
  exact fin 0 done a w S hu hfree h fun i hi=>v6 hu (by rw [h.dsz,pF];omega)
 |succ fuel ih=>
  intro done a w S hu hfree h
  by_cases hall: ∀i,i<l.length->done.getD i false=true
  ·exact fin _ done a w S hu hfree h hall
  have hready0: ∀m i,i<m->i<l.length->Region.ready .any (l++t).toArray done=[]->done.getD i false=true:=by
   intro m
   induction m with
   |zero=>intro i h;omega
   |succ m ihm=>
    intro i him hil hr
    have his:i<done.size:=by rw [h.dsz,pF];omega
    by_cases hdn:done.getD i true=true
    ·rw [<-pS his];exact hdn
    ·exfalso
     obtain⟨o,ho⟩: ∃o,(l++t)[i]? =some o:=⟨l[i],hL2 i _ (lP hil)⟩
     have hmem:i∈Region.ready .any (l++t).toArray done:=by
      rw [vm]
      refine⟨by simpa using hdn,o,by simpa using ho,fun e he Y=>?_⟩
      have:=hedge i o ho
      unfold fx at this
      have:=pG.1 this e (by simpa using he)
      simp only [Y,rn,Bi,tK]at this
      exact ihm e.on (by omega) (by omega) hr
     rw [hr]at hmem;cases hmem
  refine⟨fun hr=>absurd (fun i hi=>hready0 (i+1) i (by omega) hi hr) hall,fun i hi=>?_⟩
  have hil:i<l.length:=by
   rcases oE i l.length with h' |h'
   ·exact h'
   ·exact absurd (lower done a w S i hfree h hi h') hall
  obtain⟨hun,o,ho,hwait⟩:=vm.1 hi
  have ho' :(l++t)[i]? =some o:=by simpa using ho
  have hol:=hL1 i o hil ho'
  obtain⟨needs,u,V,Z,h3,_,h5⟩:=DR.get l 0 hd i o hol
  rw [sB]at V h3
  have hF:=h.need ho' hun hwait Z h3
  have h6:=h5 a w S h.sat h.own hF
  have hu' :mL (done.setIfInBounds i true)=fuel:=by have:=sI hun;omega
  obtain⟨aE,hdd,hdN,_⟩:=hs1 o (uk hol)
  have huq: ∀j p,(l++t)[j]? =some p->done.getD j false=true->p.dst=some aE->i=j:=fun j p hj hjd hpd=>by
   rcases oE j l.length with h' |h'
   ·exact hs2 i j o p hol (hL1 j p h' hj) (by rw [hdd,hpd])
   ·rw [hfree j h']at hjd;cases hjd
  have hfree' : ∀j,l.length<=j->(done.setIfInBounds i true).getD j false=false:=fun j hj=>by
   rw [yC false (by omega)];exact hfree j hj
  unfold wpOpIn
  rw [ho]
  show if _ then _ else _
  by_cases hw:Region.wanted o (yielded (l++t).toArray a.tmps)=true
  ·rw [cz hw]at h6 ⊢
   refine mB (fun a' w' ⟨v,S',ha,he,hs,hv⟩=>?_) h6
   subst ha
   exact ih _ _ _ S' hu' hfree' (h.stepT ho' hdd hdN huq hwait V hun he hs hv)
  ·rw [cr hw]at h6 ⊢
   exact⟨fun _ _=>trivial,ih _ _ _ S hu' hfree' (h.stepT ho' hdd hdN huq hwait V hun (lr.refl _ _ _) h.sat h6)⟩
def Uv{id:Nat}{l t:List Oper}(hL:L=l++t)(hm:E.P.follows .mixedOrders=true)(hsl:xP E.N.n [] l=true)(hlen:ts.length=l.length)(M:A1 L l.length t.length=true)(hd:DR E O G L ts 0 l)(k:RG E L.toArray ah t O (Nq l ts G)):CG E ah (.region id L.toArray true) O G:=fun a w S st=>by
 subst hL
 refine wpIn_region_any hm ?_
 obtain⟨he,hs⟩:=Dt (w:=w) st.sat
 refine KM hsl hlen hd M (fun a w S st=>k a w S st) _ _ _ _ S ?_ (fun j _=>?_)
  ⟨st.ext.step0 he,hs,st.own.ext0 he,st.facts.size,st.facts.defers,by simp,fun j o hj hdone=>?_,fun k t hk _=>st.facts.at_ k t hk,fun j o aE t hj hdone=>?_⟩
 ·unfold mL;rw [OK,OC];simp
 ·simp [Bp];split<;>rfl
 ·simp [Bp]at hdone
  split at hdone<;>simp at hdone
 ·simp [Bp]at hdone
  split at hdone<;>simp at hdone

abbrev It(α:Type):=(σ:Type)->(α->σ->Option (Bool×σ))->σ->Option σ

def dI.weak: ∀{O:List OE},dI base B w S O->dI 0 wm w S O
 |[],_=>trivial
 |_::_,⟨V,Z,h3⟩=>⟨⟨V.1,fun _ _=> .inl (jW _)⟩,Z,dI.weak h3⟩
def AC: ∀{O:List OE},dI 0 wm w S O->(∀f∈O,∀k,f.fp k->base<=k\/B k)->dI base B w S O
 |[],_,_=>trivial
 |_::_,⟨V,Z,h3⟩,h=>⟨⟨V.1,h _ (oa ..)⟩,Z,AC h3 fun f hf=>h f (oD _ hf)⟩
section
variable{ty:TypeId}
end
def Py:List OE->List OE->Prop
 |[],_=>True
 |f::O,g::O' =>(∀k,f.fp k->g.fp k)/\Py O O'
 |_::_,[]=>False
def Py.mem: ∀{O O' :List OE},Py O O' -> ∀k,(∃f∈O,f.fp k)-> ∃f∈O',f.fp k
 |f::O,g::O',⟨V,Z⟩,k,⟨q,hq,hk⟩=>by
  rcases gw.1 hq with e|e
  ·subst e;exact⟨g,oa ..,V k hk⟩
  ·obtain⟨q',h3,h4⟩:=Py.mem Z k ⟨q,e,hk⟩
   exact⟨q',oD _ h3,h4⟩

variable{O1:List OE}{ι:Type}{O2:ι->List OE}
def rk: ∀{O1 O2:List OE},dI base B w S (O1++O2)->dI base B w S O1/\dI base B w S O2/\ ∀e∈O1,∀f∈O2,e.apart f
 |[],_,h=>⟨trivial,h,fun _ h=>(by cases h)⟩
 |e::O1,O2,⟨V,Z,h3⟩=>by
  obtain⟨k1,k2,k3⟩:=rk h3
  refine⟨⟨V,fun f hf=>Z f (HV _ hf),k1⟩,k2,fun g D f hf=>?_⟩
  rcases gw.1 D with rfl|D
  ·exact Z f (OD _ hf)
  ·exact k3 g D f hf
def dI.cons{e:OE}(V:e.holds base B w S)(Z: ∀f∈O,e.apart f)(h3:dI base B w S O):dI base B w S (e::O):=⟨V,Z,h3⟩

section
section
variable{ty:TypeId}
end
end


section
variable{R:Ending->World->Prop}{ds:List Deferred}
end
def rT(t:Ty):Rp Unit where
 sz:=1
 agg:=false
 rc:=fun S cs _=> ∃v,cs=[v]/\v.oneCell' =true/\t.p S v
 mono:=fun h ⟨v,e,k,l⟩=>⟨v,e,k,t.mono h l⟩
 len:=fun⟨_,e,_⟩=>by rw [e];rfl
 one:=fun⟨v,e,k,_⟩ c hc=>by rw [e]at hc;simp at hc;subst hc;exact k
 sc:=fun _=>rfl
def tRT{t:Ty}{u:Unit}{v:Value}:(H (rT t) u).p S v↔v.oneCell' =true/\t.p S v:=by
 constructor
 ·rintro⟨cs,rfl,w,rfl,V,Z⟩;exact⟨V,Z⟩
 ·rintro⟨V,Z⟩;exact⟨[v],rfl,v,rfl,V,Z⟩
variable{k' :IntKind}{lo:Int}
section
variable{ty:TypeId}
def cE.imp{t u:Ty}(h:cE E O G o t)(k: ∀S v,t.p S v->u.p S v):cE E O G o u:=fun a w S hs ho hf=>
 pN (fun _ _ ⟨v,S',V,Z,h3,h4⟩=>⟨v,S',V,Z,h3,k S' v h4⟩) (h a w S hs ho hf)
def Pg{args:α->List Ty}{res:β->Ty}{f:α->Option β}(A:bf E.N G x (gV E.P args res f)):cE E O G ⟨dst,.box T x,ty,pos,after,g⟩ (bt (rT (gV E.P args res f)) ()):=
 Nv (fun S a hf=>tRT.2 ⟨by obtain⟨_,_,e,_⟩:=A S a hf;rw [e];rfl,A S a hf⟩)
def qu{t:Ty}{p:Operand}(ti:TI E.P U 1 bytes false z)(hp:bf E.N G p (bt (rT t) ())):cE E O G ⟨dst,.load U p,ty,pos,after,g⟩ t:=
 (fJ (r:=rT t) (x:=()) ti rfl rfl hp).imp fun _ _ h=>(tRT.1 h).2

def X6:rV.rc S [.slice none 0 0] (J none 0 0):=⟨rfl,rfl⟩
def Pw{N:Fr}(h:bf N G x (tV (J l cap n))):bf N G x (H rV (J l cap n)):=fun S a hf=>Cv.2 ⟨h S a hf,by cases l<;>rfl⟩
def xi{p:Operand}(ti:TI E.P U 1 bytes false z)(hm:bx rV T b (J l cap n)∈O)(hp:bf E.N G p (tV (an b 0))):
  cE E O G ⟨dst,.load U p,ty,pos,after,g⟩ (tV (J l cap n)):=(bB (q:=rV) (get:=fun x=>x) ti rfl rfl cD hm hp).imp fun _ _ h=>(Cv.1 h).1

def dN{α:Type}(xs:List α)(lo hi:Int):Option (List α):=if 0<=lo/\lo<=hi/\hi<=(xs.length:Int)then some ((xs.take hi.toNat).drop lo.toNat)else none
def gN(h:dN xs lo hi=some ys): ∃l m:Nat,lo=l/\hi=m/\l<=m/\m<=xs.length/\ys=(xs.take m).drop l:=by
 unfold dN at h
 split at h
 ·rename_i hc
  exact⟨lo.toNat,hi.toNat,by omega,by omega,by omega,by omega,by simpa using h.symm⟩
 ·cases h
def BA{a:Option Addr}{l:Nat}(h:IC r S a xs)(hl:l<=m)(hm:m<=xs.length)(hc:xs.length<=cap):
  IC r S (if cap=l then a else a.map (·.add (l*r.sz))) ((xs.take m).drop l):=by
 by_cases hlm:l=m
 ·left;subst hlm;simp
 right
 rcases h with h|⟨b,off,c,T,fr,e1,e2,e3⟩
 ·subst h;simp at hm;omega
 subst e1
 have hne: ¬(cap=l):=by omega
 refine⟨b,off+l*r.sz,c,T,fr,?_,e2,?_⟩
 ·rw [cr hne];simp [Addr.add]
 have hlen:((xs.take m).drop l).length=m-l:=by simp;omega
 have e4:xs=(xs.take m).take l++((xs.take m).drop l++xs.drop m):=by
  rw [<-gK,uH,uH]
 have V:((xs.take m).take l).length=l:=by simp;omega
 rw [e4]at e3
 have Z:=(rb e3).2
 have h3:=(rb Z).1
 rw [V]at h3
 rw [hlen]at h3 ⊢
 rw [<-e4]at h3
 rw [Cj,yD,xH]at h3
 have hmin:min ((m-l)*r.sz) (xs.length*r.sz-l*r.sz)=(m-l)*r.sz:=by
  rw [<-Nat.sub_mul];exact Cf (Bo _ (by omega))
 rwa [hmin]at h3
def rz{n:Int}{y:Nat}{code:BoundsCode}(h0:0<=n)(V:n<=y):(Instr.sliceBound (.int k n) y code).run P w= .ok n.toNat w:=by
 simp [Instr.sliceBound,asIntOf,h0,V]
def nP{hi:Operand}(M:E.P.underlying t=some (.slice T))(ti:TI E.P T sz bytes agg z)(hsz:r.sz=sz)(A:bf E.N G x (H (eO r) xs))(hhi:bf E.N G hi (H (rI k') j))(h:dN xs 0 j=some ys):cE E O G ⟨dst,.slice t x none (some hi) none,ty,pos,after,g⟩ (H (eO r) ys):=
 .of_pure fun a w S _ _ hf=>by
  subst hsz
  obtain⟨ad,cap,V,Z,h3,h4⟩:=mY.1 (A S a hf)
  have h6:=ge.1 (hhi S a hf)
  obtain⟨l,m,hl,rfl,h7,h8,rfl⟩:=gN h
  have hl0:l=0:=by omega
  subst hl0
  have hlen:((xs.take m).drop 0).length=m-0:=by simp;omega
  refine⟨.slice (if cap=0 then ad else ad.map (·.add (0*r.sz))) (m-0) (cap-0),?_,mY.2 ⟨_,cap-0,by rw [hlen],by omega,by omega,BA h4 h7 h8 Z⟩⟩
  simp [execOp,Instr.sliceAt,V,h6,Instr.slice,ka M,Instr.sliceBounds,rz (k:=k') (n:=(m:Int)) (y:=cap) (by omega) (by omega),ti.sizeOf]
def Ns{lo:Operand}{i:Int}(M:E.P.underlying t=some (.slice T))(ti:TI E.P T sz bytes agg z)(hsz:r.sz=sz)(A:bf E.N G x (H (eO r) xs))(hlo:bf E.N G lo (H (rI k) i))(h:dN xs i (xs.length:Int)=some ys):cE E O G ⟨dst,.slice t x (some lo) none none,ty,pos,after,g⟩ (H (eO r) ys):=
 .of_pure fun a w S _ _ hf=>by
  subst hsz
  obtain⟨ad,cap,V,Z,h3,h4⟩:=mY.1 (A S a hf)
  have h5:=ge.1 (hlo S a hf)
  obtain⟨l,m,rfl,hm,h7,h8,rfl⟩:=gN h
  have hm' :m=xs.length:=by omega
  subst hm'
  have hlen:((xs.take xs.length).drop l).length=xs.length-l:=by simp
  refine⟨.slice (if cap=l then ad else ad.map (·.add (l*r.sz))) (xs.length-l) (cap-l),?_,mY.2 ⟨_,cap-l,by rw [hlen],by omega,by omega,BA h4 h7 h8 Z⟩⟩
  simp [execOp,Instr.sliceAt,V,h5,Instr.slice,ka M,Instr.sliceBounds,rz (k:=k) (n:=(l:Int)) (y:=xs.length) (by omega) (by omega),ti.sizeOf]
end
def xE{id:Nat}(m:Nat)(hm:E.P.follows .mixedOrders=true)(hsl:xP E.N.n [] (L.take m)=true)(hlen:ts.length=(L.take m).length)(M:A1 L (L.take m).length (L.drop m).length=true)(hd:DR E O G L ts 0 (L.take m))(k:RG E L.toArray ah (L.drop m) O (Nq (L.take m) ts G)):CG E ah (.region id L.toArray true) O G:=Uv (uH m L).symm hm hsl hlen M hd k

def lq(P:Program){α:Type} [DecidableEq α](t:TypeId)(r:Rp α)(n:Nat):Prop:=
 ∀(S:SH) (cs ds:List Value) (x y:α) (aE:Nat) (w:World),r.rc S cs x->r.rc S ds y->(Op.equalIn (aE+n) t (r.val cs) (r.val ds)).run P w= .ok (decide (x=y)) w
def u7(h:P.underlying t=some (.int k')):lq P t (rI k) (n+1):=fun S cs ds x y aE w A hy=>by
 have V:cs=[.int k x]:=A
 have Z:ds=[.int k y]:=hy
 subst V Z
 have:(Op.equalIn (aE+n+1) t (.int k x) (.int k y)).run P w= .ok (x==y) w:=by simp [Op.equalIn,ka h]
 have e:(x==y)=decide (x=y):=by by_cases h:x=y<;>simp [h]
 rw [e]at this
 exact this
def TG(h:P.underlying t=some .bool):lq P t rB (n+1):=fun S cs ds x y aE w A hy=>by
 have V:cs=[.bool x]:=A
 have Z:ds=[.bool y]:=hy
 subst V Z
 have:=run_equalIn_bool' (P:=P) w (aE+n) t x y h
 simp only [Rp.val,rB,List.headD_cons,lu,jQ]
 rw [show aE+(n+1)=aE+n+1 from rfl,this]
 cases x<;>cases y<;>rfl
def Kl(h:P.underlying t=some .string):lq P t rS (n+1):=fun S cs ds x y aE w A hy=>by
 have V:cs=[.string ⟨x.toArray⟩]:=A
 have Z:ds=[.string ⟨y.toArray⟩]:=hy
 subst V Z
 have:=run_equalIn_string (P:=P) w (aE+n) t ⟨x.toArray⟩ ⟨y.toArray⟩ h
 simp only [Rp.val,rS,List.headD_cons,lu,jQ]
 rw [show aE+(n+1)=aE+n+1 from rfl,this]
 simp only [ByteArray.toList_eq]
 by_cases e:x=y<;>simp [e]
abbrev Fd:=TypeId×Nat×Bool
def NP(f:Field):Fd:=(f.type,f.offset,f.name== "_")
def Ry(aE:Nat)(xs ys:Array Value):List Fd->Sem Bool
 |[]=>pure true
 |f::fs=>
  if f.2.2=false then do
   let a<-part f.1 xs f.2.1
   let b<-part f.1 ys f.2.1
   let r<-Op.equalIn aE f.1 a b
   if(!r)=true then pure false else Ry aE xs ys fs
  else Ry aE xs ys fs
def L9(aE:Nat)(xs ys:Array Value): ∀fs:List Field,Op.eqFields aE xs ys fs=Ry aE xs ys (fs.map NP)
 |[]=>rfl
 |f::fs=>by
  unfold Op.eqFields Ry
  rw [L9 aE xs ys fs]
  by_cases h:f.name= "_"
  ·have e:((NP f).2.2=false)=False:=by simp [NP,h]
   simp only [uG,e,jQ]
   rw [cr (by simpa using h)]
  ·have e:((NP f).2.2=false)=True:=by simp [NP,h]
   simp only [uG,e,jo]
   rw [cz (by simpa using h)]
   rfl
def HP(P:Program){α:Type}(r:Rp α)(n:Nat)(fs:List Fd)(c:α->α->Bool):Prop:=
 ∀(S:SH) (cs ds:List Value) (x y:α) (aE:Nat) (w:World),r.rc S cs x->r.rc S ds y->(Ry (aE+n) cs.toArray ds.toArray fs).run P w= .ok (c x y) w
def HP.nil:HP P r n [] (fun _ _=>true):=fun _ _ _ _ _ _ _ _ _=>rfl
def uQ(ti:TI P t sz bytes agg z)(hsz:q.sz=sz)(hag:q.agg=agg)(hf:jn r off q get){cs:List Value}{x:α}(A:r.rc S cs x)(w:World):
  (part t cs.toArray off).run P w= .ok (q.val ((cs.drop off).take q.sz)) w:=by
 have h:=hf S cs x A
 have hl:=q.len h
 subst hsz hag
 unfold part
 by_cases ha:q.agg=true
 ·have e1:=ti.isAgg w
  simp only [sq,e1,ha,tJ,jo,ti.sizeOf,EB]
  unfold Rp.val
  rw [cz ha]
  congr 2
  apply Array.ext'
  simp
 ·rw [Dv]at ha
  have e1:=ti.isAgg w
  have hs1:=q.sc ha
  simp only [sq,e1,ha,tJ,lu,jQ]
  rw [hs1]at hl ⊢
  obtain⟨v,hv⟩:=List.length_eq_one_iff.1 hl
  have hc:cs[off]? =some v:=by
   have:((cs.drop off).take 1)[0]? =some v:=by rw [hv];rfl
   rw [Dw (by omega),yX]at this
   simpa using this
  unfold Rp.val
  rw [hv,ha]
  simp [hc]
def HP.cons [DecidableEq β]{t:Nat}{fs:List Fd}{c:α->α->Bool}(ti:TI P t sz bytes agg z)(hsz:q.sz=sz)(hag:q.agg=agg)(hf:jn r off q get)(he:lq P t q n)(hr:HP P r n fs c):
  HP P r n ((t,off,false)::fs) (fun x y=>decide (get x=get y)&&c x y):=fun S cs ds x y aE w A hy=>by
 have V:=uQ ti hsz hag hf A w
 have Z:=uQ ti hsz hag hf hy w
 have h3:=he S _ _ _ _ aE w (hf S cs x A) (hf S ds y hy)
 unfold Ry
 simp only [jo,sq,V,Z,h3,tJ]
 by_cases e:get x=get y
 ·simp only [e,decide_true,rn,lu,jQ,wK]
  exact hr S cs ds x y aE w A hy
 ·simp [e]
def yl [DecidableEq α]{t:Nat}{fs:List Fd}{c:α->α->Bool}(M:(P.underlying t).map (fun aE=>match aE with| .struct l=>(true,l.toList.map NP)|_=>(false,[]))=some (true,fs))(hp:P.stoodInHeld t=false)(ha:r.agg=true)(hr:HP P r n fs c)(hc: ∀x y,c x y=decide (x=y)):lq P t r (n+1):=fun S cs ds x y aE w A hy=>by
 obtain⟨l,V,Z⟩: ∃l,P.underlying t=some (.struct l)/\l.toList.map NP=fs:=by
  cases hu:P.underlying t with
  |none=>rw [hu]at M;cases M
  |some aE=>
   rw [hu]at M
   cases aE<;>simp at M
   exact⟨_,rfl,M⟩
 have hfo:P.fieldsOf t=l:=by unfold Program.fieldsOf;rw [V]
 have:=run_equalIn_struct (P:=P) w (aE+n) t cs.toArray ds.toArray (by rw [hfo];exact V) hp
 rw [uK ha,uK ha,show aE+(n+1)=aE+n+1 from rfl,this,hfo,L9,Z,hr S cs ds x y aE w A hy,hc]
def j9 [DecidableEq α](h:lq P t r n)(m:Nat):lq P t r (m+n):=fun S cs ds x y aE w A hy=>by
 have:=h S cs ds x y (aE+m) w A hy
 rwa [Nat.add_assoc]at this
def MD.of [DecidableEq α](D:P.eqGuardType P.depth t=false)(h:lq P t r 20):MD P t r:=⟨D,fun S cs ds x y aE w A hy=>h S cs ds x y aE w A hy⟩

def PU{l:List α}{e:α}(h:xs.drop i=e::l):decide ((i:Int)<(xs.length:Int))=true:=by
 have:i<xs.length:=by
  rcases oE i xs.length with h' |h'
  ·exact h'
  ·rw [OG h']at h;cases h
 simp;omega
def TM(h:xs.drop i=[]):decide ((i:Int)<(xs.length:Int))=false:=by
 have:=KH.1 h
 simp;omega
def cM{l:List α}{e:α}(h:xs.drop i=e::l):xs.drop (i+1)=l:=by
 rw [<-xH,h];rfl
def df{l:List α}{e:α}(h:xs.drop i=e::l):fB xs (i:Int)=some e:=by
 rw [kr]
 have:=yX (xs:=xs) (i:=i) (j:=0)
 rw [h]at this
 simpa using this.symm
def PV{l:List α}{e:α}(h:xs.drop i=e::l)(hN:xs.length<=maxLen):i<9223372036854775807:=by
 have:=of_decide_eq_true (PU h)
 simp only [maxLen]at hN
 omega
def Rc{k:Nat}(h:N-i=k+1):decide ((i:Int)<(N:Int))=true:=by simp;omega
def Rd(h:N-i=0):decide ((i:Int)<(N:Int))=false:=by simp;omega
def Ny{k:Nat}(h:N-i=k+1):N-(i+1)=k:=by omega
def Nz{k:Nat}(h:N-i=k+1)(hN:N<=9223372036854775807):i<9223372036854775807:=by omega
def Z1(h:n<=maxLen):n<=9223372036854775807:=by simp only [maxLen]at h;omega
variable{ix:Operand}{zs:List α}
section
section
variable{ty:TypeId}
def wl{one:Operand}(hi:i<9223372036854775807)(A:bf E.N G x (H (rI .i64) (i:Int)))(V:bf E.N G one (H (rI .i64) 1)):
  cE E O G ⟨dst,.binOp .add xt x one yt,ty,pos,after,g⟩ (H (rI .i64) ((i+1:Nat):Int)):=by
 have e:IntKind.i64.wrap ((i:Int)+1)=((i+1:Nat):Int):=by
  rw [Bl];omega
 have:=fX (E:=E) (O:=O) (dst:=dst) (ty:=ty) (pos:=pos) (after:=after) (g:=g) (xt:=xt) (yt:=yt) A V
 rwa [e]at this
end
def n9(hm:mj mm r T l cap xs∈O)(h:xs.length<=maxLen->CG E ah c O G):CG E ah c O G:=fun a w S st=>by
 refine h ?_ a w S st
 obtain⟨cells,V,_⟩:=(st.own.mem _ hm).1
 cases l with
 |none=>have:=V.1;omega
 |some b=>obtain⟨cur,_,g2,g3,_⟩:=V;exact oc g2 g3
def St.dataAt{k:Nat}(h:St E O G a w S)(hk:look G k=some (tO r l cap xs)):St E O ((k,H (eO r) xs)::G) a w S:=h.cons (h.facts.at_ k _ hk).2
def vk(k:Nat)(hk:look G k=some (tO r l cap xs))(h:CG E ah c O ((k,H (eO r) xs)::G)):CG E ah c O G:=fun a w S st=>h a w S (st.dataAt hk)
def nC(k:Nat)(hk:look G k=some (tO r l cap xs))(h:AT E ah e O ((k,H (eO r) xs)::G)):AT E ah e O G:=fun a w S st=>h a w S (st.dataAt hk)
def dS(l:Option Nat)(off:Nat):Value:=
 match l with
 |none=> .pointer none
 |some b=>an b off
def rM(h:AQ mm r T l cap xs w S){e:α}(hi:xs[i]? =some e):
  ∃b cur,l=some b/\w.heap[b]? =some (.cells cur T (0,0))/\xs.length<=cap/\cur.size=cap*r.sz/\r.rc S ((cur.toList.drop (i*r.sz)).take r.sz) e:=by
 obtain⟨cells,V,Z,_⟩:=h
 have hlt:=(ui.1 hi).1
 cases l with
 |none=>have:=V.1;omega
 |some b=>
  obtain⟨cur,g1,g2,g3,g4,g5⟩:=V
  refine⟨b,cur,rfl,g1,g2,g4,?_⟩
  have h3:=CO Z hi
  rw [<-g5,Cj,yD]at h3
  have h4:i*r.sz+r.sz<=xs.length*r.sz:=by
   rw [<-Nat.succ_mul];exact Bo _ hlt
  rwa [Cf (by omega)]at h3
def kG{i:Int}{e:α}(h:fB xs i=some e):0<=i/\xs[i.toNat]? =some e:=by
 unfold fB at h
 split at h
 ·exact⟨by assumption,h⟩
 ·cases h
section
variable{ty:TypeId}
def cy{e:TypeId}{i:Int}(M:E.P.underlying t=some (.slice e))(ti:TI E.P e sz bytes agg z)(hm:mj mm r U l cap xs∈O)(A:bf E.N G x (tV (J l cap n)))(hi:bf E.N G ix (H (rI k) i))(hy:fB xs i=some y)(hn:n=xs.length:=by rfl):
  cE E O G ⟨dst,.indexAddr t x ix,ty,pos,after,g⟩ (tV (dS l (i.toNat*sz+0))):=
 .of_pure fun a w S _ ho hf=>by
  subst hn
  have V:a.eval x=J l cap xs.length:=A S a hf
  have h3:a.eval ix= .int k i:=ge.1 (hi S a hf)
  obtain⟨h0,hy'⟩:=kG hy
  obtain⟨b,cur,rfl,_⟩:=rM (ho.mem _ hm).1 hy'
  have hlt:i.toNat<xs.length:=(ui.1 hy').1
  refine⟨_,?_,rfl⟩
  have hc:0<=i/\i<(xs.length:Int):=⟨h0,by omega⟩
  simp [execOp,V,h3,J,Instr.indexAt,asIntOf,ka M,hc,ti.sizeOf,jD,dS,an]
def dQ{foff:Nat}{i:Int}{p:Operand}(ti:TI E.P T sz bytes agg z)(hsz:q.sz=sz)(hag:q.agg=agg)(hget:jn r foff q get)(hoff:Nat.ble (foff+q.sz) r.sz=true)(hm:mj mm r U l cap xs∈O)(hy:fB xs i=some y)(hp:bf E.N G p (tV (dS l (i.toNat*r.sz+foff)))):cE E O G ⟨dst,.load T p,ty,pos,after,g⟩ (H q (get y)):=
 .of_pure fun a w S _ ho hf=>by
  have V:a.eval p=dS l (i.toNat*r.sz+foff):=hp S a hf
  obtain⟨h0,hy'⟩:=kG hy
  obtain⟨b,cur,rfl,Y,_,_,h6⟩:=rM (ho.mem _ hm).1 hy'
  have hoff' :=ul hoff
  have h7:=hget S _ _ h6
  rw [Cj,yD,xH,Cf (by omega)]at h7
  refine⟨_,?_,_,rfl,h7⟩
  simp [execOp,V,dS,an,Instr.loadAt,Instr.sureAddr,lT ti Y hsz hag h7]
def H7{o:Nat}{p:Operand}(hf:bP E.P T i=some (off,sz))(h0:Nat.beq sz 0=false)(hm:mj mm r U l cap xs∈O)(hy:fB xs j=some y)(hp:bf E.N G p (tV (dS l o))):
  cE E O G ⟨dst,.fieldAddr T p i,ty,pos,after,g⟩ (tV (dS l (o+off))):=
 .of_pure fun a w S _ ho hF=>by
  have V:a.eval p=dS l o:=hp S a hF
  obtain⟨_,hy'⟩:=kG hy
  obtain⟨b,cur,rfl,_⟩:=rM (ho.mem _ hm).1 hy'
  obtain⟨fs,f,e1,e2,e3,e4⟩:=DO hf
  have h0' :sz≠0:=fun e=>by subst e;simp at h0
  refine⟨_,?_,rfl⟩
  simp [execOp,V,dS,an,Instr.fieldAt,ka e1,e2,Instr.sureAddr,fieldPlace,e4,h0',e3,jD]
end
def CL{α:Type}{r:Rp α}{S:SH}{y:α}{c:List Value}(hc:r.rc S c y): ∀{xs:List α} {i:Nat} {cs:List Value},uh r S cs xs->i<xs.length->uh r S (cs.take (i*r.sz)++c++cs.drop (i*r.sz+r.sz)) (xs.set i y)
 |[],_,_,_,h=>by simp at h
 |x::xs,0,cs,⟨a,b,e,V,Z⟩,_=>by
  have hl:=r.len V
  refine⟨c,b,?_,hc,Z⟩
  rw [e,<-hl];simp
 |x::xs,i+1,cs,⟨a,b,e,V,Z⟩,h=>by
  have hl:=r.len V
  have ih:=CL hc Z (i:=i) (by simpa using h)
  refine⟨a,_,?_,V,ih⟩
  have e1:(i+1)*r.sz=a.length+i*r.sz:=by rw [hl,AE];omega
  rw [e,e1,List.take_length_add_append,Nat.add_assoc,List.drop_length_add_append]
  simp
def s9{foff:Nat}{v:β}{i:Int}{p:Operand}{ty:TypeId}(ti:TI E.P T sz bytes agg z)(hsz:q.sz=sz)(hset:eS r foff q set)(hoff:Nat.ble (foff+q.sz) r.sz=true)(hy:fB xs i=some y)(hz:xs.set i.toNat (set y v)=zs)(hp:bf E.N G p (tV (dS l (i.toNat*r.sz+foff))))(A:bf E.N G x (H q v))(k:RG E ops ah rest (gb r U l cap zs::O) G):
  RG E ops ah (⟨none,.store T p x,ty,pos,after,none⟩::rest) (gb r U l cap xs::O) G:= .of rfl fun a w S st=>by
 subst hz
 have V:a.eval p=dS l (i.toNat*r.sz+foff):=hp S a st.facts
 obtain⟨ds,Z,h3⟩:=A S a st.facts
 obtain⟨h0,hy'⟩:=kG hy
 have hlt:i.toNat<xs.length:=(ui.1 hy').1
 obtain⟨cells,hraw,hrc,hno⟩:=st.own.1.1
 obtain⟨b,cur,rfl,Y,hle,hcs,h6⟩:=rM st.own.1.1 hy'
 obtain⟨cur',hb',hle',hmax,hcs',hct⟩:=hraw
 have hcc:cur' =cur:=by rw [Y]at hb';injection hb' with e;injection e with e1;exact e1.symm
 subst hcc
 have hno' :S b=none:=hno b rfl
 have hoff' :=ul hoff
 have hl3:=q.len h3
 have hmul:i.toNat*r.sz+r.sz<=xs.length*r.sz:=by rw [<-Nat.succ_mul];exact Bo _ hlt
 have hmul2:xs.length*r.sz<=cur'.size:=by rw [hcs];exact Bo _ hle
 obtain⟨w',hr,e1,e2,e3,e4,e5,e6⟩:=jT ti hsz h3 Y (off:=i.toNat*r.sz+foff) (by omega)
 have hrun:(execOp a.eval ⟨none,.store T p x,ty,pos,after,none⟩).run E.P w= .ok .skip w' :=by
  simp [execOp,V,Z,Instr.storeAt,dS,an,Instr.sureAddr,hr]
 refine⟨fun c h=>(by cases h),?_⟩
 rw [hrun]
 have hnew:=hset S _ _ _ _ h6 h3
 have hrc' :=CL hnew hrc hlt
 have hcl:=mF hrc
 have hcells:(cur'.toList.take (i.toNat*r.sz+foff)++ds++cur'.toList.drop (i.toNat*r.sz+foff+q.sz)).take (xs.length*r.sz)=
   cells.take (i.toNat*r.sz)++(((cur'.toList.drop (i.toNat*r.sz)).take r.sz).take foff++ds++((cur'.toList.drop (i.toNat*r.sz)).take r.sz).drop (foff+q.sz))++cells.drop (i.toNat*r.sz+r.sz):=by
  subst hct
  apply KE
  intro j
  simp only [List.getElem?_take,List.getElem?_append,yX,Bk,Cl,pF,HU]
  rcases oE j (xs.length*r.sz)with hj|hj
  ·simp only [hj,jo]
   rcases oE j (i.toNat*r.sz)with hj1|hj1
   ·rw [cz (by omega),cz (by omega),cz (by omega),cz (by omega),cz (by omega),cz (by omega)]
   ·rcases oE j (i.toNat*r.sz+foff)with hj2|hj2
    ·rw [cz (by omega),cz (by omega),cz (by omega),cz (by omega),cr (by omega),cz (by omega),cz (by omega),cz (by omega),cz (by omega)]
     congr 1;omega
    ·rcases oE j (i.toNat*r.sz+foff+q.sz)with hj3|hj3
     ·rw [cz (by omega),cr (by omega),cz (by omega),cr (by omega),cz (by omega),cr (by omega)]
      congr 1;omega
     ·rw [cr (by omega)]
      rcases oE j (i.toNat*r.sz+r.sz)with hj4|hj4
      ·rw [cz (by omega),cr (by omega),cr (by omega),cz (by omega)]
       congr 1;omega
      ·rw [cr (by omega),cz (by omega)]
       congr 1;omega
  ·rw [cr (by omega),cr (by omega),cr (by omega)]
 obtain⟨g1,g2,g3⟩:=ne (O:=O) st.sat (gb r U (some b) cap xs) (gb r U (some b) cap (xs.set i.toNat (set y v))) st.own (fun k=>⟨fun h=>(ro h).symm,fun h=>by rw [h];rfl⟩) (fun k=>⟨fun h=>(ro h).symm,fun h=>by rw [h];rfl⟩) ⟨e1,e2,e3,e4.1,e4.2⟩ e6
  ⟨_,⟨_,e5,by rw [FW];exact hle,hmax,by simp only [FX,pF,Bk,Cl,HU];omega,by rw [FW];exact hcells⟩,hrc',fun k hk=>by rw [<-ro hk];exact hno'⟩ hno'
 exact k _ _ S ⟨st.ext.step g1 (fun c hc=>st.own.1.2 c (by rw [hc];rfl)),g2,g3,st.facts⟩

def o0(sz:Nat)(l:Option Nat)(cap lo n:Nat):Value:=
 match l with
 |none=> .slice none 0 0
 |some b=> .slice (some ⟨b,if cap=lo then 0 else lo*sz,none⟩) n (cap-lo)
section
variable{ty:TypeId}
def IQ(h:AQ mm r U l cap xs w S): ∃ad c,J l cap xs.length= .slice ad xs.length c/\xs.length<=c/\ad=l.map (fun b=>⟨b,0,none⟩)/\(l=none->c=0/\xs=[])/\(l≠none->c=cap):=by
 obtain⟨cells,V,_⟩:=h
 cases l with
 |none=>
  have A:xs=[]:=za V.1
  subst A
  exact⟨none,0,rfl,gc _,rfl,fun _=>⟨rfl,rfl⟩,fun h=>absurd rfl h⟩
 |some b=>
  obtain⟨cur,_,g2,_⟩:=V
  exact⟨_,cap,rfl,g2,rfl,fun h=>(by cases h),fun _=>rfl⟩
def wj{hi:Operand}(M:E.P.underlying t=some (.slice T))(ti:TI E.P T sz bytes agg z)(hsz:r.sz=sz)(hm:mj mm r U l cap xs∈O)(A:bf E.N G x (tV (J l cap n)))(hhi:bf E.N G hi (H (rI k') j))(h:dN xs 0 j=some ys)(hn:n=xs.length:=by rfl):cE E O G ⟨dst,.slice t x none (some hi) none,ty,pos,after,g⟩ (tV (J l cap ys.length)):=
 .of_pure fun a w S _ ho hf=>by
  subst hsz
  subst hn
  have V:a.eval x=J l cap xs.length:=A S a hf
  obtain⟨ad,c,Z,h3,h4,h5,h5'⟩:=IQ (ho.mem _ hm).1
  have h6:=ge.1 (hhi S a hf)
  obtain⟨lo,m,hl,rfl,h7,h8,rfl⟩:=gN h
  have hl0:lo=0:=by omega
  subst hl0
  have hlen:((xs.take m).drop 0).length=m:=by simp;omega
  refine⟨_,?_,rfl⟩
  rw [Z]at V
  have hr:(execOp a.eval ⟨dst,.slice t x none (some hi) none,ty,pos,after,g⟩).run E.P w= .ok (.value (.slice ad m c)) w:=by
   simp [execOp,Instr.sliceAt,V,h6,Instr.slice,ka M,Instr.sliceBounds,rz (k:=k') (n:=(m:Int)) (y:=c) (by omega) (by omega),ti.sizeOf]
   cases ad<;>simp [Addr.add]
  rw [hr,hlen,h4]
  cases l with
  |none=>
   obtain⟨rfl,rfl⟩:=h5 rfl
   have:m=0:=by simpa using h8
   subst this;rfl
  |some b=>rw [h5' (by simp)];rfl
def tZ{lo:Operand}{i:Int}(M:E.P.underlying t=some (.slice T))(ti:TI E.P T sz bytes agg z)(hsz:r.sz=sz)(hm:mj mm r U l cap xs∈O)(A:bf E.N G x (tV (J l cap n)))(hlo:bf E.N G lo (H (rI k) i))(h:dN xs i (xs.length:Int)=some ys)(hn:n=xs.length:=by rfl):cE E O G ⟨dst,.slice t x (some lo) none none,ty,pos,after,g⟩ (tV (o0 sz l cap i.toNat ys.length)):=
 .of_pure fun a w S _ ho hf=>by
  subst hsz
  subst hn
  have V:a.eval x=J l cap xs.length:=A S a hf
  obtain⟨ad,c,Z,h3,h4,h5,h5'⟩:=IQ (ho.mem _ hm).1
  have h6:=ge.1 (hlo S a hf)
  obtain⟨lo',m,rfl,hm',h7,h8,rfl⟩:=gN h
  have hm2:m=xs.length:=by omega
  subst hm2
  have hlen:((xs.take xs.length).drop lo').length=xs.length-lo' :=by simp
  refine⟨_,?_,rfl⟩
  rw [Z]at V
  have hr:(execOp a.eval ⟨dst,.slice t x (some lo) none none,ty,pos,after,g⟩).run E.P w= .ok (.value (.slice (if c=lo' then ad else ad.map (·.add (lo' *r.sz))) (xs.length-lo') (c-lo'))) w:=by
   simp [execOp,Instr.sliceAt,V,h6,Instr.slice,ka M,Instr.sliceBounds,rz (k:=k) (n:=(lo' :Int)) (y:=xs.length) (by omega) (by omega),ti.sizeOf]
  rw [hr,hlen,h4]
  cases l with
  |none=>
   obtain⟨rfl,rfl⟩:=h5 rfl
   have:lo' =0:=by simpa using h7
   subst this;rfl
  |some b=>
   rw [h5' (by simp)]
   unfold o0
   simp only [Cm,Il,jD,sB]
   split<;>rfl
def Bz{i:Int}(h:dN xs lo hi=some ys)(hy:fB ys i=some y):fB xs (lo+i)=some y/\0<=lo/\0<=i:=by
 obtain⟨l,m,rfl,rfl,V,Z,rfl⟩:=gN h
 obtain⟨h0,h3⟩:=kG hy
 refine⟨?_,by omega,h0⟩
 obtain⟨j,rfl⟩: ∃j:Nat,i=j:=⟨i.toNat,by omega⟩
 rw [show((l:Int)+(j:Int))=((l+j:Nat):Int)from by omega,kr]
 rw [yX,Cm]at h3
 have hlt:l+j<m:=by
  have:=(ui.1 h3).1
  simp at this;omega
 rwa [Dw hlt]at h3
def A7{e:TypeId}{i:Int}(M:E.P.underlying t=some (.slice e))(ti:TI E.P e sz bytes agg z)(hsz:r.sz=sz)(hm:mj mm r U l cap xs∈O)(hs:dN xs lo hi=some ys)(A:bf E.N G x (tV (o0 sz l cap lo.toNat ys.length)))(hi' :bf E.N G ix (H (rI k) i))(hy:fB ys i=some y):
  cE E O G ⟨dst,.indexAddr t x ix,ty,pos,after,g⟩ (tV (dS l ((lo+i).toNat*sz+0))):=
 .of_pure fun a w S _ ho hf=>by
  subst hsz
  have V:a.eval x=o0 r.sz l cap lo.toNat ys.length:=A S a hf
  have h3:a.eval ix= .int k i:=ge.1 (hi' S a hf)
  obtain⟨hxi,hl0,hi0⟩:=Bz hs hy
  obtain⟨_,hx'⟩:=kG hxi
  obtain⟨b,cur,rfl,_,hle,_⟩:=rM (ho.mem _ hm).1 hx'
  have hlt:i.toNat<ys.length:=(ui.1 (kG hy).2).1
  have hlt2:(lo+i).toNat<xs.length:=(ui.1 hx').1
  have hne: ¬(cap=lo.toNat):=by omega
  refine⟨_,?_,rfl⟩
  have hc:0<=i/\i<(ys.length:Int):=⟨hi0,by omega⟩
  have e1:(lo+i).toNat=lo.toNat+i.toNat:=by omega
  simp [execOp,V,h3,o0,hne,Instr.indexAt,asIntOf,ka M,hc,ti.sizeOf,jD,dS,an,e1,AE]
def Pf{e:TypeId}(M:E.P.underlying t=some (.slice e))(hm:mj mm r U l cap xs∈O)(hs:dN xs lo hi=some ys)(A:bf E.N G x (tV (o0 sz l cap lo.toNat ys.length))):
  cE E O G ⟨dst,.call ⟨.builtin .len,#[x],#[t]⟩,ty,pos,after,g⟩ (H (rI .i64) (ys.length:Int)):=
 .of_pure fun a w S _ ho hf=>by
  have V:a.eval x=o0 sz l cap lo.toNat ys.length:=A S a hf
  obtain⟨ad,c,h3⟩: ∃ad c,o0 sz l cap lo.toNat ys.length= .slice ad ys.length c:=by
   cases l with
   |none=>
    obtain⟨_,Z,_⟩:=(ho.mem _ hm).1
    have hx0:xs=[]:=za Z.1
    subst hx0
    obtain⟨l',m,_,_,_,h8,rfl⟩:=gN hs
    exact⟨none,0,by simp [o0]⟩
   |some b=>exact⟨_,_,rfl⟩
  refine⟨.int .i64 ys.length,?_,ge.2 rfl⟩
  simp [execOp,resolve,invoke,builtin,Builtin.len_,ka M,V,h3,goInt]
end
def WE(h:dN xs 0 j=some ys)(k:AQ false r U l cap xs w S):AQ false r U l cap ys w S:=by
 obtain⟨lo,m,hl,rfl,h7,h8,rfl⟩:=gN h
 have hl0:lo=0:=by omega
 subst hl0
 obtain⟨cells,V,Z,h3⟩:=k
 have hlen:((xs.take m).drop 0).length=m:=by simp;omega
 have h4:uh r S (cells.take (m*r.sz)) (xs.take m):=by
  have e:xs=xs.take m++xs.drop m:=(uH _ _).symm
  rw [e]at Z
  have:=(rb Z).1
  rwa [show(xs.take m).length=m from by simp;omega]at this
 refine⟨cells.take (m*r.sz),?_,by simpa using h4,fun b Y=>h3 b Y⟩
 rw [hlen]
 cases l with
 |none=>
  obtain⟨g1,g2⟩:=V
  exact⟨by omega,by rw [g2];simp⟩
 |some b=>
  obtain⟨cur,g1,g2,g3,g4,g5⟩:=V
  exact⟨cur,g1,by omega,g3,g4,by rw [<-g5,yD,Cf (Bo _ h8)]⟩
def St.cut(h:dN xs 0 j=some ys)(st:St E (gb r U l cap xs::O) G a w S):St E (gb r U l cap ys::O) G a w S:=
 st.own_map fun ho=>⟨⟨WE h ho.1.1,ho.1.2⟩,ho.2.1,ho.2.2⟩
def Kx(h:dN xs 0 j=some ys)(k:RG E ops ah rest (gb r U l cap ys::O) G):RG E ops ah rest (gb r U l cap xs::O) G:=fun a w S st=>k a w S (st.cut h)
def AT.cut(h:dN xs 0 j=some ys)(k:AT E ah e (gb r U l cap ys::O) G):AT E ah e (gb r U l cap xs::O) G:=fun a w S st=>k a w S (st.cut h)
def LG.cut(h:dN xs 0 j=some ys)(k:LG E ah c (gb r U l cap ys::O) G):LG E ah c (gb r U l cap xs::O) G:=fun a w S st=>k a w S (st.cut h)
end

variable{x0 x1 x10 x11 x12 x2 x3 x4 x5 x6 x7 x8 x9:OE}
section
def vO{O:List OE}(h:dI base B w S (x0::x1::x2::x3::x4::x5::O)):dI base B w S (x5::x0::x1::x2::x3::x4::O):=
 (nB h vP (fun f hf=>by simp only [gw]at hf ⊢;rcases hf with h|h|h|h|h|h<;>simp [h])).swap
def Es(h:RG E ops ah rest (x5::x0::x1::x2::x3::x4::O) G):RG E ops ah rest (x0::x1::x2::x3::x4::x5::O) G:=fun a w S st=>h a w S (st.own_map vO)
def fG(h:AT E ah e (x5::x0::x1::x2::x3::x4::O) G):AT E ah e (x0::x1::x2::x3::x4::x5::O) G:=fun a w S st=>h a w S (st.own_map vO)
def vi(h:LG E ah c (x5::x0::x1::x2::x3::x4::O) G):LG E ah c (x0::x1::x2::x3::x4::x5::O) G:=fun a w S st=>h a w S (st.own_map vO)
def td{O:List OE}(h:dI base B w S (x0::x1::x2::x3::x4::x5::x6::O)):dI base B w S (x6::x0::x1::x2::x3::x4::x5::O):=
 (nB h vO (fun f hf=>by simp only [gw]at hf ⊢;rcases hf with h|h|h|h|h|h|h<;>simp [h])).swap
def Jn(h:RG E ops ah rest (x6::x0::x1::x2::x3::x4::x5::O) G):RG E ops ah rest (x0::x1::x2::x3::x4::x5::x6::O) G:=fun a w S st=>h a w S (st.own_map td)
def Ev(h:CG E ah c (x6::x0::x1::x2::x3::x4::x5::O) G):CG E ah c (x0::x1::x2::x3::x4::x5::x6::O) G:=fun a w S st=>h a w S (st.own_map td)
def ae(h:AT E ah e (x6::x0::x1::x2::x3::x4::x5::O) G):AT E ah e (x0::x1::x2::x3::x4::x5::x6::O) G:=fun a w S st=>h a w S (st.own_map td)
def ic(h:LG E ah c (x6::x0::x1::x2::x3::x4::x5::O) G):LG E ah c (x0::x1::x2::x3::x4::x5::x6::O) G:=fun a w S st=>h a w S (st.own_map td)
def vN{O:List OE}(h:dI base B w S (x0::x1::x2::x3::x4::x5::x6::x7::O)):dI base B w S (x7::x0::x1::x2::x3::x4::x5::x6::O):=
 (nB h td (fun f hf=>by simp only [gw]at hf ⊢;rcases hf with h|h|h|h|h|h|h|h<;>simp [h])).swap
def ta(h:RG E ops ah rest (x7::x0::x1::x2::x3::x4::x5::x6::O) G):RG E ops ah rest (x0::x1::x2::x3::x4::x5::x6::x7::O) G:=fun a w S st=>h a w S (st.own_map vN)
def dp(h:AT E ah e (x7::x0::x1::x2::x3::x4::x5::x6::O) G):AT E ah e (x0::x1::x2::x3::x4::x5::x6::x7::O) G:=fun a w S st=>h a w S (st.own_map vN)
def rl(h:LG E ah c (x7::x0::x1::x2::x3::x4::x5::x6::O) G):LG E ah c (x0::x1::x2::x3::x4::x5::x6::x7::O) G:=fun a w S st=>h a w S (st.own_map vN)
def yz{O:List OE}(h:dI base B w S (x0::x1::x2::x3::x4::x5::x6::x7::x8::O)):dI base B w S (x8::x0::x1::x2::x3::x4::x5::x6::x7::O):=
 (nB h vN (fun f hf=>by simp only [gw]at hf ⊢;rcases hf with h|h|h|h|h|h|h|h|h<;>simp [h])).swap
def Jm(h:RG E ops ah rest (x8::x0::x1::x2::x3::x4::x5::x6::x7::O) G):RG E ops ah rest (x0::x1::x2::x3::x4::x5::x6::x7::x8::O) G:=fun a w S st=>h a w S (st.own_map yz)
def my(h:AT E ah e (x8::x0::x1::x2::x3::x4::x5::x6::x7::O) G):AT E ah e (x0::x1::x2::x3::x4::x5::x6::x7::x8::O) G:=fun a w S st=>h a w S (st.own_map yz)
def yy{O:List OE}(h:dI base B w S (x0::x1::x2::x3::x4::x5::x6::x7::x8::x9::O)):dI base B w S (x9::x0::x1::x2::x3::x4::x5::x6::x7::x8::O):=
 (nB h yz (fun f hf=>by simp only [gw]at hf ⊢;rcases hf with h|h|h|h|h|h|h|h|h|h<;>simp [h])).swap
def Ex(h:AT E ah e (x9::x0::x1::x2::x3::x4::x5::x6::x7::x8::O) G):AT E ah e (x0::x1::x2::x3::x4::x5::x6::x7::x8::x9::O) G:=fun a w S st=>h a w S (st.own_map yy)
def RV(h:LG E ah c (x9::x0::x1::x2::x3::x4::x5::x6::x7::x8::O) G):LG E ah c (x0::x1::x2::x3::x4::x5::x6::x7::x8::x9::O) G:=fun a w S st=>h a w S (st.own_map yy)
def ue{O:List OE}(h:dI base B w S (x0::x1::x2::x3::x4::x5::x6::x7::x8::x9::x10::O)):dI base B w S (x10::x0::x1::x2::x3::x4::x5::x6::x7::x8::x9::O):=
 (nB h yy (fun f hf=>by simp only [gw]at hf ⊢;rcases hf with h|h|h|h|h|h|h|h|h|h|h<;>simp [h])).swap
def Oo(h:RG E ops ah rest (x10::x0::x1::x2::x3::x4::x5::x6::x7::x8::x9::O) G):RG E ops ah rest (x0::x1::x2::x3::x4::x5::x6::x7::x8::x9::x10::O) G:=fun a w S st=>h a w S (st.own_map ue)
def al(h:AT E ah e (x10::x0::x1::x2::x3::x4::x5::x6::x7::x8::x9::O) G):AT E ah e (x0::x1::x2::x3::x4::x5::x6::x7::x8::x9::x10::O) G:=fun a w S st=>h a w S (st.own_map ue)
def fF(h:LG E ah c (x10::x0::x1::x2::x3::x4::x5::x6::x7::x8::x9::O) G):LG E ah c (x0::x1::x2::x3::x4::x5::x6::x7::x8::x9::x10::O) G:=fun a w S st=>h a w S (st.own_map ue)
def ud{O:List OE}(h:dI base B w S (x0::x1::x2::x3::x4::x5::x6::x7::x8::x9::x10::x11::O)):dI base B w S (x11::x0::x1::x2::x3::x4::x5::x6::x7::x8::x9::x10::O):=
 (nB h ue (fun f hf=>by simp only [gw]at hf ⊢;rcases hf with h|h|h|h|h|h|h|h|h|h|h|h<;>simp [h])).swap
def BX(h:RG E ops ah rest (x11::x0::x1::x2::x3::x4::x5::x6::x7::x8::x9::x10::O) G):RG E ops ah rest (x0::x1::x2::x3::x4::x5::x6::x7::x8::x9::x10::x11::O) G:=fun a w S st=>h a w S (st.own_map ud)
def co(h:AT E ah e (x11::x0::x1::x2::x3::x4::x5::x6::x7::x8::x9::x10::O) G):AT E ah e (x0::x1::x2::x3::x4::x5::x6::x7::x8::x9::x10::x11::O) G:=fun a w S st=>h a w S (st.own_map ud)
def fb(h:LG E ah c (x11::x0::x1::x2::x3::x4::x5::x6::x7::x8::x9::x10::O) G):LG E ah c (x0::x1::x2::x3::x4::x5::x6::x7::x8::x9::x10::x11::O) G:=fun a w S st=>h a w S (st.own_map ud)
def zZ{O:List OE}(h:dI base B w S (x0::x1::x2::x3::x4::x5::x6::x7::x8::x9::x10::x11::x12::O)):dI base B w S (x12::x0::x1::x2::x3::x4::x5::x6::x7::x8::x9::x10::x11::O):=
 (nB h ud (fun f hf=>by simp only [gw]at hf ⊢;rcases hf with h|h|h|h|h|h|h|h|h|h|h|h|h<;>simp [h])).swap
def BW(h:RG E ops ah rest (x12::x0::x1::x2::x3::x4::x5::x6::x7::x8::x9::x10::x11::O) G):RG E ops ah rest (x0::x1::x2::x3::x4::x5::x6::x7::x8::x9::x10::x11::x12::O) G:=fun a w S st=>h a w S (st.own_map zZ)
def bX(h:AT E ah e (x12::x0::x1::x2::x3::x4::x5::x6::x7::x8::x9::x10::x11::O) G):AT E ah e (x0::x1::x2::x3::x4::x5::x6::x7::x8::x9::x10::x11::x12::O) G:=fun a w S st=>h a w S (st.own_map zZ)
end

def iH(h:xs.set i y=zs):zs.length=xs.length:=by rw [<-h,FW]
section
def kW(hl:m=n)(s:Nat)(hs:look G s=some (tV (J l cap n)))(k:RG E ops ah rest O ((s,tV (J l cap m))::G)):RG E ops ah rest O G:=by
 subst hl
 exact fun a w S st=>k a w S (st.cons (st.facts.at_ s _ hs))
end

def fq{o1 o2:Nat}{g1:α->β}{g2:β->γ}(V:jn r o1 q g1)(Z:jn q o2 s g2)(Y:Nat.ble (o2+s.sz) q.sz=true:=by rfl):jn r (o1+o2) s (fun x=>g2 (g1 x)):=fun S cs x h=>by
 have h3:=Z S _ _ (V S cs x h)
 have hb' :=ul Y
 rwa [Cj,yD,xH,Cf (by omega)]at h3
def gm{o1 o2:Nat}{g1:α->β}{u1:α->β->α}{u2:β->γ->β}(V:jn r o1 q g1)(k1:eS r o1 q u1)(k2:eS q o2 s u2)(Y:Nat.ble (o2+s.sz) q.sz=true:=by rfl)(hc:Nat.ble (o1+q.sz) r.sz=true:=by rfl):
  eS r (o1+o2) s (fun x y=>u1 x (u2 (g1 x) y)):=fun S cs x ds y h hy=>by
 have hb' :=ul Y
 have hc' :=ul hc
 have hl:=r.len h
 have h3:=k1 S cs x _ _ h (k2 S _ _ ds y (V S cs x h) hy)
 have e:cs.take (o1+o2)++ds++cs.drop (o1+o2+s.sz)=cs.take o1++(((cs.drop o1).take q.sz).take o2++ds++((cs.drop o1).take q.sz).drop (o2+s.sz))++cs.drop (o1+q.sz):=by
  rw [yD,Cf (by omega),Cj,xH,List.take_add,show o1+(o2+s.sz)=o1+o2+s.sz from by omega]
  simp only [gK]
  congr 3
  have e2:cs.drop (o1+q.sz)=(cs.drop (o1+o2+s.sz)).drop (q.sz-(o2+s.sz)):=by rw [xH];congr 1;omega
  rw [e2,uH]
 rw [e];exact h3

def ea(P:Program)(f:FuncId)(ts:List Ty)(O1:List OE){ι:Type}(t:ι->Ty)(O2:ι->List OE):Prop:=
 ∀w S vs,mT w S->AR S ts vs->dI 0 wm w S O1->Calls P f vs.toArray w fun en w' => ∃i v S',en= .returned v/\(t i).p S' v/\lr (fun k=> ∃f∈O1,f.fp k) w S w' S' /\mT w' S' /\dI 0 wm w' S' (O2 i)/\ ∀k,(∃f∈O2 i,f.fp k)->(∃f∈O1,f.fp k)\/w.heap.size<=k
def Wu(E:En)(O1:List OE){ι:Type}(t:ι->Ty)(O2:ι->List OE):Ending->World->Prop:=fun en w' =>
 ∃i v S',en= .returned v/\(t i).p S' v/\lr E.B E.w0 E.S0 w' S' /\mT w' S' /\dI 0 wm w' S' (O2 i)/\ ∀k,(∃f∈O2 i,f.fp k)->(∃f∈O1,f.fp k)\/E.w0.heap.size<=k
def Pz(O1:List OE):Nat->Prop:=fun k=> ∃f∈O1,f.fp k
def ea.of{t:ι->Ty}(hf:P.funcs[f]? =some fn)(Y:fn.body=some c)(hN:fn.ntmps=N)(hn:Nat.ble ts.length N=true)(h: ∀w0 S0,CG ⟨P,⟨N,[]⟩,Pz O1,w0,S0,none⟩ (bodyPost P fn (Wu ⟨P,⟨N,[]⟩,Pz O1,w0,S0,none⟩ O1 t O2)) c O1 (Bb 0 ts)):ea P f ts O1 t O2:=by
 subst hN
 intro w S vs hs hv ho
 exact yu.1 (callsIn_of_wp (F:=fw none) (n:=0) hf Y trivial (h w S _ w S ⟨lr.refl _ _ _,hs,AC ho fun f hf k hk=> .inr ⟨f,hf,hk⟩,BR hv _ (ul hn)⟩))
def PT{t:ι->Ty}{v:Value}(st:St E O G a w S)(hB:E.B=Pz O1)(i:ι)(hO:O=O2 i)(hv:(t i).p S v):Wu E O1 t O2 (.returned v) w:=by
 subst hO
 refine⟨i,v,S,rfl,hv,st.ext,st.sat,st.own.weak,fun k ⟨f,hf,hk⟩=>?_⟩
 rcases(dI.mem st.own f hf).2 k hk with h|h
 ·exact .inr h
 ·rw [hB]at h;exact .inl h
section
variable{t:ι->Ty}
def er{k:Nat}{u:Ty}(hr:fn.results= #[.tmp k])(i:ι)(hO:O=O2 i)(hk:look G k=some u)(hu: ∀S v,u.p S v->(t i).p S v):
  AT ⟨P,⟨N,[]⟩,Pz O1,w0,S0,none⟩ (bodyPost P fn (Wu ⟨P,⟨N,[]⟩,Pz O1,w0,S0,none⟩ O1 t O2)) .ret O G:=fun _ _ S st=>
 ⟨st.facts.defers,_,uv P fn k hr _ _,PT st rfl i hO (hu S _ (st.facts.at_ k u hk))⟩
end
def HH: ∀{O1 O2:List OE},dI base B w S O1->dI base B w S O2->(∀e∈O1,∀f∈O2,e.apart f)->dI base B w S (O1++O2)
 |[],_,_,h,_=>h
 |e::O1,O2,⟨V,Z,h3⟩,h,ha=>⟨V,fun f hf=>(Bj.1 hf).elim (Z f) (ha e (oa ..) f),HH h3 h fun g D f hf=>ha g (oD _ D) f hf⟩
section
variable{ty:TypeId}
def St.turn{Or O2:List OE}(st:St E (O1++Or) G a w S)(A:lr (fun k=> ∃f∈O1,f.fp k) w S w' S')(hs:mT w' S')(ho:dI 0 wm w' S' O2)(hn: ∀k,(∃f∈O2,f.fp k)->(∃f∈O1,f.fp k)\/w.heap.size<=k):St E (O2++Or) G a w' S' :=by
 obtain⟨V,Z,h3⟩:=rk st.own
 have hbl:=st.base_le
 refine⟨st.ext.step A (fun b ⟨f,hf,Y⟩=>(dI.mem V f hf).2 b Y),hs,HH (AC ho fun f hf k hk=>?_) (Z.ext A fun f hf b Y ⟨g,D,hgb⟩=>h3 g D f hf b hgb Y) (fun e he f hf b heb hfb=>?_),st.facts.mono A.keep⟩
 ·rcases hn k ⟨f,hf,hk⟩with⟨g,D,hgk⟩|h
  ·exact(dI.mem V g D).2 k hgk
  ·exact .inl (oc hbl h)
 ·rcases hn b ⟨e,he,heb⟩with⟨g,D,hgb⟩|h
  ·exact h3 g D f hf b hgb hfb
  ·have:=f.here (dI.mem Z f hf).1 b hfb
   omega
def Dm{xs:List Operand}(O1 Or:List OE){t:ι->Ty}(hO:O=O1++Or)(hc:ak E.P f=true)(hs:ea E.P f ts O1 t O2)(A:kL E.N G xs ts)(hd:Nat.blt aE E.N.n=true)(k: ∀i,RG E ops ah rest (O2 i++Or) ((aE,t i)::G)):
  RG E ops ah (⟨some aE,.call ⟨.value (.func f),xs.toArray,ats⟩,ty,pos,after,none⟩::rest) O G:= .of rfl fun a w S st=>by
 subst hO
 have hr:(execOp a.eval ⟨some aE,.call ⟨.value (.func f),xs.toArray,ats⟩,ty,pos,after,none⟩).run E.P w= .ok (.enter f (xs.map a.eval).toArray) w:=by
  simp [execOp,resolve,Act.eval,Deferred.ofValue,invoke,ko hc]
 refine⟨fun c h=>(by cases h),?_⟩
 rw [hr]
 refine(hs w S _ st.sat (A.tys st.facts) (rk st.own).1.weak).mono fun en w' ⟨i,v,S',he,hv,V,Z,h3,h4⟩=>⟨_,he,?_⟩;exact k i _ _ S' ((st.turn V Z h3 h4).put hd hv)
end

structure OI where
 h:Nat->Option Nat×Nat:=fun _=>(none,0)
 os:List (Option Nat×Nat):=[]
 fp:Nat->Prop:=wm
 v:Value:=undef
 ng:Nat->(Option Nat×Nat)×(Nat->Option Nat×Nat):=fun _=>((none,0),fun _=>(none,0))
 oss:Nat->List (Option Nat×Nat):=fun _=>[]
def oF:OI:={}
def oi(l:Option Nat)(c:Nat):OI:={h:=fun _=>(l,c)}
def EffOK(E:En)(O:List OE)(need:mK)(o:Oper)(post:OI->List OE)(t:OI->Ty):Prop:=
 ∀a w S,mT w S->dI E.base E.B w S O->du E.N S a need->E.base<=w.heap.size->
  Lx E.P o a w (fun a' w' => ∃v S' x,a' =a.put o.dst v/\lr (Pz O) w S w' S' /\mT w' S' /\dI E.base E.B w' S' (post x)/\(t x).p S' v)
variable{post:OI->List OE}
section
variable{ty:TypeId}
def N5{t' :TypeId}{y:Operand}{u:OI->Ty}(ti:TI E.P T sz bytes agg z)(hsz:r.sz=sz)(hz:Nat.beq z.length sz=true)(h0:Nat.blt 0 sz=true)(h128:Nat.ble bytes 2048=true)(M:E.P.underlying t=some (.slice T))(A:bf E.N G x (tV (J l cap n)))(hy: ∀a w S,mT w S->du E.N S a G-> ∃news,Src E.P r.sz t' (a.eval y) ys.length news w/\uh r S news ys)(happ:oI xs ys=some zs)(hu: ∀l' cap' w0 S,(mj mm r T l' cap' zs).p w0 S->(u (oi l' cap')).p S (J l' cap' zs.length))(hn:n=xs.length):
  EffOK E (mj mm r T l cap xs::O) G ⟨some aE,.call ⟨.builtin .append,#[x,y],#[t,t']⟩,ty,pos,after,g⟩ (fun i=>mj mm r T (i.h 0).1 (i.h 0).2 zs::O) u:=fun a w S hs ho hf Y=>by
 subst hn
 have V:a.eval x=J l cap xs.length:=A S a hf
 obtain⟨news,Z,h3⟩:=hy a w S hs hf
 obtain⟨l',cap',w',S',hr,hext,hsat,hh,hnew⟩:=zr (ty:=ty) ti hsz hz h0 h128 M hs ho.1 Y Z h3 happ
 have hrun:(execOp a.eval ⟨some aE,.call ⟨.builtin .append,#[x,y],#[t,t']⟩,ty,pos,after,g⟩).run E.P w= .ok (.value (J l' cap' zs.length)) w' :=by
  simp [execOp,resolve,invoke,builtin,V,hr]
 refine⟨fun c h=>(by cases h),?_⟩
 rw [hrun]
 refine⟨_,S',oi l' cap',rfl,hext.more fun b Y=>⟨_,oa ..,Y⟩,hsat,⟨hh,fun f hf b Y hfb=>?_,ho.2.2.ext hext fun f hf b Y hbl=>ho.2.1 f hf b hbl Y⟩,hu l' cap' w' S' hh.1⟩
 rcases hnew b Y with h|h
 ·exact ho.2.1 f hf b h hfb
 ·have:=f.here (dI.mem ho.2.2 f hf).1 b hfb
  omega
def iw{t' :TypeId}{y:Operand}(ti:TI E.P T sz bytes agg z)(hsz:r.sz=sz)(hz:Nat.beq z.length sz=true)(h0:Nat.blt 0 sz=true)(h128:Nat.ble bytes 2048=true)(M:E.P.underlying t=some (.slice T))(ht' :t' =t)(A:bf E.N G x (tO r l cap xs))(hy:bf E.N G y (H (eO r) ys))(happ:oI xs ys=some zs):
  EffOK E (K r T l cap xs::O) G ⟨some aE,.call ⟨.builtin .append,#[x,y],#[t,t']⟩,ty,pos,after,g⟩ (fun i=>K r T (i.h 0).1 (i.h 0).2 zs::O) (fun i=>tO r (i.h 0).1 (i.h 0).2 zs):=by
 subst ht'
 exact N5 ti hsz hz h0 h128 M (tQ A) (fun a w S hs hf=>zi M hs (hy S a hf)) happ (fun _ _ _ _ h=>⟨rfl,m7 h⟩) rfl
def RA{xs:List Operand}{u:OI->Ty}(hc:ak E.P f=true)(hs:jE E.P f ts mm r T ys)(A:kL E.N G xs ts)(hu: ∀l cap w0 S,(mj mm r T l cap ys).p w0 S->(u (oi l cap)).p S (J l cap ys.length)):
  EffOK E O G ⟨some aE,.call ⟨.value (.func f),xs.toArray,ats⟩,ty,pos,after,g⟩ (fun i=>mj mm r T (i.h 0).1 (i.h 0).2 ys::O) u:=fun a w S hsat ho hf Y=>by
 have hr:(execOp a.eval ⟨some aE,.call ⟨.value (.func f),xs.toArray,ats⟩,ty,pos,after,g⟩).run E.P w= .ok (.enter f (xs.map a.eval).toArray) w:=by
  simp [execOp,resolve,Act.eval,Deferred.ofValue,invoke,ko hc]
 refine⟨fun c h=>(by cases h),?_⟩
 rw [hr]
 exact(hs w S _ hsat (A.tys hf)).mono fun e w' ⟨l,cap,S',he,V,Z,h3⟩=>⟨_,he,_,S',oi l cap,rfl,V.more fun _ Y=>Y.elim,Z,uW ho V h3.1 (fun b Y=>(h3.2 b Y).resolve_right id) Y,hu l cap w' S' h3.1⟩
def dI.turn{Or O2:List OE}(h:dI base B w S (O1++Or))(hbl:base<=w.heap.size)(A:lr (Pz O1) w S w' S')(ho:dI 0 wm w' S' O2)(hn: ∀k,(∃f∈O2,f.fp k)->(∃f∈O1,f.fp k)\/w.heap.size<=k):dI base B w' S' (O2++Or):=by
 obtain⟨V,Z,h3⟩:=rk h
 refine HH (AC ho fun f hf k hk=>?_) (Z.ext A fun f hf b Y ⟨g,D,hgb⟩=>h3 g D f hf b hgb Y) (fun e he f hf b heb hfb=>?_)
 ·rcases hn k ⟨f,hf,hk⟩with⟨g,D,hgk⟩|h
  ·exact(dI.mem V g D).2 k hgk
  ·exact .inl (oc hbl h)
 ·rcases hn b ⟨e,he,heb⟩with⟨g,D,hgb⟩|h
  ·exact h3 g D f hf b hgb hfb
  ·have:=f.here (dI.mem Z f hf).1 b hfb
   omega
def d7{xs:List Operand}(O1 Or:List OE){t:OI->Ty}{O2:OI->List OE}(hO:O=O1++Or)(hc:ak E.P f=true)(hs:ea E.P f ts O1 t O2)(A:kL E.N G xs ts)(hpost: ∀i,O2 i++Or=post i):
  EffOK E O G ⟨some aE,.call ⟨.value (.func f),xs.toArray,ats⟩,ty,pos,after,g⟩ post t:=fun a w S hsat ho hf Y=>by
 subst hO
 obtain rfl:(fun i=>O2 i++Or)=post:=funext hpost
 have hr:(execOp a.eval ⟨some aE,.call ⟨.value (.func f),xs.toArray,ats⟩,ty,pos,after,g⟩).run E.P w= .ok (.enter f (xs.map a.eval).toArray) w:=by
  simp [execOp,resolve,Act.eval,Deferred.ofValue,invoke,ko hc]
 refine⟨fun c h=>(by cases h),?_⟩
 rw [hr]
 exact(hs w S _ hsat (A.tys hf) (rk ho).1.weak).mono fun en w' ⟨i,v,S',he,hv,V,Z,h3,h4⟩=>⟨_,he,v,S',i,rfl,V.more fun b ⟨f,hf,Y⟩=>⟨f,HV _ hf,Y⟩,Z,dI.turn ho Y V h3 h4,hv⟩
def jl{op:Op}{t:OI->Ty}(h:EffOK E O G ⟨some aE,op,ty,pos,after,none⟩ post t)(hd:Nat.blt aE E.N.n=true)(k: ∀x:OI,RG E ops ah rest (post x) ((aE,t x)::G)):RG E ops ah (⟨some aE,op,ty,pos,after,none⟩::rest) O G:= .of rfl fun a w S st=>
 pN (fun a' w' ⟨v,S',x,ha,A,hs,ho,hv⟩=>by
  subst ha
  exact k x _ _ S' ⟨st.ext.step A fun b ⟨f,hf,Y⟩=>(dI.mem st.own f hf).2 b Y,hs,ho,(st.facts.mono A.keep).put hd hv⟩) (h a w S st.sat st.own st.facts st.base_le)
end

def upd(σ:Nat->OI)(k:Nat)(x:OI):Nat->OI:=fun j=>bif Nat.beq j k then x else σ j
def JB(σ:Nat->OI){k j:Nat}(x:OI)(h:j≠k):upd σ k x j=σ j:=by
 have:Nat.beq j k=false:=by
  cases Y:Nat.beq j k with
  |false=>rfl
  |true=>exact absurd (qL Y) h
 simp [upd,this]
structure NE where
 slot:Nat
 ty:(Nat->OI)->Ty
 src:Option Nat
def abN(G:mK)(ts:List (OI->Ty))(n:NE):Prop:=
 match n.src with
 |some j=> ∀σ,(ts[j]?).map (fun f=>f (σ j))=some (n.ty σ)
 |none=> ∀σ,look G n.slot=some (n.ty σ)
def Qi(G:mK)(ts:List (OI->Ty)):List NE->Prop
 |[]=>True
 |n::l=>abN G ts n/\Qi G ts l
def Qi.mem{ts:List (OI->Ty)}: ∀{l:List NE},Qi G ts l-> ∀n∈l,abN G ts n
 |_::_,⟨h,_⟩,_,.head _=>h
 |_::_,⟨_,h⟩,_,.tail _ hm=>Qi.mem h _ hm
def ji(E:En)(ops:Array Oper)(O:List OE)(need:mK)(o:Oper)(post:OI->List OE)(t:OI->Ty):Prop:=
 ∀a w S,mT w S->dI E.base E.B w S O->du E.N S a need->E.base<=w.heap.size->
  if Region.wanted o (yielded ops a.tmps)then Lx E.P o a w (fun a' w' => ∃v S' x,a' =a.put o.dst v/\lr (Pz O) w S w' S' /\mT w' S' /\dI E.base E.B w' S' (post x)/\(t x).p S' v)
  else∃x,dI E.base E.B w S (post x)/\(t x).p S undef
def bS{need:mK}{t:OI->Ty}(D:o.guard=none)(h:EffOK E O need o post t):ji E ops O need o post t:=fun a w S hs ho hf Y=>by
 have:Region.wanted o (yielded ops a.tmps)=true:=by unfold Region.wanted;rw [D]
 rw [this,cz rfl]
 exact h a w S hs ho hf Y
def il(es:List Bool)(i:Nat):Nat:=(es.take i).countP (· ==true)
def Od(L:List Oper)(es:List Bool):Bool:=(List.range es.length).all fun i=>(List.range i).all fun j=> !((es[i]?).getD false&&(es[j]?).getD false)||oP L L.length i j
structure DJE(E:En)(G:mK)(l:List Oper)(ts:List (OI->Ty))(Om:Nat->(Nat->OI)->List OE)(es:List Bool)(done:Array Bool)(a:Act)(w:World)(S:SH)(σ:Nat->OI)(c:Nat):Prop where
 ext:lr E.B E.w0 E.S0 w S
 sat:mT w S
 own:dI E.base E.B w S (Om c σ)
 size:a.tmps.size=E.N.n
 defers:a.defers=E.N.ds
 dsz:done.size=l.length
 down: ∀j o,l[j]? =some o->done.getD j false=true-> ∀e∈o.after,Region.binds .any e=true->done.getD e.on false=true
 old: ∀k t,look G k=some t->(∀j o,l[j]? =some o->done.getD j false=true->o.dst≠some k)->t.p S (a.tmps.getD k undef)
 new: ∀j o aE f,l[j]? =some o->done.getD j false=true->o.dst=some aE->ts[j]? =some f->(f (σ j)).p S (a.tmps.getD aE undef)
 chain: ∀k,es[k]? =some true->(done.getD k false=true↔il es k<c)
variable{es:List Bool}
def HC: ∀{i j:Nat},i<j->es[i]? =some true->il es i<il es j:=by
 induction es with
 |nil=>intro i j _ h;simp at h
 |cons e es ih=>
  intro i j hij h
  cases j with
  |zero=>omega
  |succ j=>
   cases i with
   |zero=>simp at h;subst h;simp [il]
   |succ i=>
    have:=ih (i:=i) (j:=j) (by omega) (by simpa using h)
    cases e<;>simp [il]at this ⊢ <;>omega
def yx: ∀{c k:Nat},c<il es k-> ∃i,i<k/\es[i]? =some true/\il es i=c:=by
 induction es with
 |nil=>intro c k h;simp [il]at h
 |cons e es ih=>
  intro c k h
  cases k with
  |zero=>simp [il]at h
  |succ k=>
   cases e with
   |false=>
    obtain⟨i,V,Z,h3⟩:=ih (c:=c) (k:=k) (by simpa [il] using h)
    exact⟨i+1,by omega,by simpa using Z,by simpa [il] using h3⟩
   |true=>
    cases c with
    |zero=>exact⟨0,by omega,rfl,by simp [il]⟩
    |succ c=>
     obtain⟨i,V,Z,h3⟩:=ih (c:=c) (k:=k) (by simp [il]at h ⊢;omega)
     exact⟨i+1,by omega,by simpa using Z,by simp [il]at h3 ⊢;omega⟩
section
variable{ts:List (OI->Ty)}{Om:Nat->(Nat->OI)->List OE}
end

section
variable{ty:TypeId}
end

def IN{α:Type}{r:Rp α}{x:α}{z:List Value}(A: ∀S,r.rc S z x)(S:SH): ∀n:Nat,uh r S (List.replicate n z).flatten (List.replicate n x)
 |0=>rfl
 |n+1=>⟨z,_,by rw [List.replicate_succ,List.flatten_cons],A S,IN A S n⟩
def GL(z:List Value):(List.range z.length).map (fun i=>z[i%z.length]?.getD default)=z:=by
 apply KE
 intro k
 rcases oE k z.length with h|h
 ·rw [Io,List.getElem?_range h]
  simp [Nat.mod_eq_of_lt h,h]
 ·rw [Is (by simpa using h),Is h]
def Dz(z:List Value)(n:Nat):(Builtin.zeroCells z.toArray n).toList=(List.replicate n z).flatten:=by
 unfold Builtin.zeroCells
 simp
 induction n with
 |zero=>simp
 |succ n ih=>
  rw [List.replicate_succ,List.flatten_cons,<-ih,Nat.succ_mul,Nat.add_comm,List.range_add,Im,GL,List.map_map]
  congr 1
  apply List.map_congr_left
  intro i _
  simp
section
variable{ty:TypeId}
def flat_len(h:z.length=sz)(n:Nat):(List.replicate n z).flatten.length=n*sz:=by
 simp [h]
def RT{x:α}{y:Operand}(ti:TI E.P T sz bytes agg z)(hsz:r.sz=sz)(hz:Nat.beq z.length sz=true)(M:E.P.underlying t=some (.slice T))(A: ∀S,r.rc S z x)(hone:z.all (·.oneCell')=true)(hs:dN xs lo (xs.length:Int)=some ys)(hy:bf E.N G y (tV (o0 sz l cap lo.toNat ys.length)))(hzs:xs.take lo.toNat++List.replicate ys.length x=zs)(k:RG E ops ah rest (gb r T l cap zs::O) G):
  RG E ops ah (⟨none,.call ⟨.builtin .clear,#[y],#[t]⟩,ty,pos,after,none⟩::rest) (gb r T l cap xs::O) G:= .of rfl fun a w S st=>by
 subst hsz
 subst hzs
 obtain⟨i,zv,hi,V,Z,h3,h4⟩:=ti.get
 have hyv:a.eval y=o0 r.sz l cap lo.toNat ys.length:=hy S a st.facts
 have hz2:z.length=r.sz:=qL hz
 obtain⟨lo',m,rfl,hm,h5,h6,rfl⟩:=gN hs
 have hm' :m=xs.length:=by omega
 subst hm'
 rw [AU]at hyv k
 rw [Cm]at hyv k
 by_cases hnil:xs.drop lo' =[]
 ·have hlo:xs.length<=lo' :=KH.1 hnil
  rw [hnil]at hyv k
  have e1:xs.take lo' ++List.replicate ([]:List α).length x=xs:=by simp [rt hlo]
  rw [e1]at k
  have hrun:(execOp a.eval ⟨none,.call ⟨.builtin .clear,#[y],#[t]⟩,ty,pos,after,none⟩).run E.P w= .ok (.value (.tuple #[])) w:=by
   cases l<;>simp [execOp,resolve,invoke,builtin,Builtin.clear_,ka M,hyv,o0]
  refine⟨fun c h=>(by cases h),?_⟩
  rw [hrun]
  exact k _ _ S st
 ·obtain⟨⟨cells,hraw,hrc,hno⟩,hbase⟩:=st.own.1
  have hlt:lo' <xs.length:=by
   rcases oE lo' xs.length with h|h
   ·exact h
   ·exact absurd (OG h) hnil
  cases l with
  |none=>have:=hraw.1;omega
  |some b=>
   obtain⟨cur,g1,g2,g3,g4,g5⟩:=hraw
   have hno' :S b=none:=hno b rfl
   have hne: ¬(cap=lo'):=by omega
   have hld:(xs.drop lo').length=xs.length-lo' :=by simp
   have hfl:=flat_len hz2 (xs.length-lo')
   have hones: ∀u∈(List.replicate (xs.length-lo') z).flatten,u.oneCell' =true:=by
    intro u hu
    obtain⟨q,hq,hu⟩:=List.mem_flatten.1 hu
    rw [(List.mem_replicate.1 hq).2]at hu
    exact pG.1 hone u hu
   have hmul:xs.length*r.sz<=cur.size:=by rw [g4];exact Bo _ g2
   have hfit:lo' *r.sz+(xs.length-lo')*r.sz=xs.length*r.sz:=by rw [<-AE];congr 1;omega
   have hst:=run_storeCells_at E.P b (lo' *r.sz) T (List.replicate (xs.length-lo') z).flatten 0 cur w g1 (by omega) hones
   simp only [FU]at hst
   have hrun:(execOp a.eval ⟨none,.call ⟨.builtin .clear,#[y],#[t]⟩,ty,pos,after,none⟩).run E.P w= .ok (.value (.tuple #[])) (w.setRow b (cur.toList.take (lo' *r.sz)++(List.replicate (xs.length-lo') z).flatten++cur.toList.drop (lo' *r.sz+(List.replicate (xs.length-lo') z).flatten.length)).toArray):=by
    have e1: ∃q,xs.length-lo' =q+1:=⟨xs.length-lo' -1,by omega⟩
    obtain⟨q,hq⟩:=e1
    have e2:a.eval y= .slice (some ⟨b,lo' *r.sz,none⟩) (q+1) (cap-lo'):=by rw [hyv,hld,hq];simp [o0,hne]
    rw [hq]at hst ⊢
    simp [execOp,resolve,invoke,builtin,Builtin.clear_,ka M,e2,zeroValue,typeInfo,hi,h3,h4,Dz,hst]
   refine⟨fun c h=>(by cases h),?_⟩
   rw [hrun]
   have hset:=setRow_heap w b cur (cur.toList.take (lo' *r.sz)++(List.replicate (xs.length-lo') z).flatten++cur.toList.drop (lo' *r.sz+(List.replicate (xs.length-lo') z).flatten.length)).toArray T _ g1
   have hl2:(xs.take lo' ++List.replicate (xs.drop lo').length x).length=xs.length:=by simp;omega
   have hsp:uh r S (cells.take (lo' *r.sz)) (xs.take lo'):=by
    have e:xs=xs.take lo' ++xs.drop lo' :=(uH _ _).symm
    rw [e]at hrc
    have:=(rb hrc).1
    rwa [show(xs.take lo').length=lo' from by simp;omega]at this
   have hcl:((cur.toList.take (lo' *r.sz)++(List.replicate (xs.length-lo') z).flatten++cur.toList.drop (lo' *r.sz+(List.replicate (xs.length-lo') z).flatten.length)).toArray).toList.take ((xs.take lo' ++List.replicate (xs.drop lo').length x).length*r.sz)=cells.take (lo' *r.sz)++(List.replicate (xs.length-lo') z).flatten:=by
    rw [hl2,<-g5,yD,Cf (Bo _ (by omega))]
    have hlen1:(cur.toList.take (lo' *r.sz)++(List.replicate (xs.length-lo') z).flatten).length=xs.length*r.sz:=by
     rw [pF,hfl,Bk,HU,Cf (by omega)];exact hfit
    rw [<-hlen1,List.take_left]
   obtain⟨q1,q2,q3⟩:=ne (O:=O) st.sat (gb r T (some b) cap xs) (gb r T (some b) cap (xs.take lo' ++List.replicate (xs.drop lo').length x)) st.own (fun k=>⟨fun h=>(ro h).symm,fun h=>by rw [h];rfl⟩) (fun k=>⟨fun h=>(ro h).symm,fun h=>by rw [h];rfl⟩)
    (w' :=w.setRow b (cur.toList.take (lo' *r.sz)++(List.replicate (xs.length-lo') z).flatten++cur.toList.drop (lo' *r.sz+(List.replicate (xs.length-lo') z).flatten.length)).toArray) ⟨rfl,rfl,rfl,by simp [World.setRow],gc _⟩ (fun k hk=>setRow_other w b k _ hk)
    ⟨cells.take (lo' *r.sz)++(List.replicate (xs.length-lo') z).flatten,⟨_,hset,by rw [hl2];exact g2,g3,by simp only [FX,pF,Bk,Cl,HU];omega,hcl⟩,by rw [hld];exact vx hsp (IN A S _),fun k hk=>by rw [<-ro hk];exact hno'⟩ hno'
   ·exact k _ _ S ⟨st.ext.step q1 (fun c hc=>hbase c (by rw [hc];rfl)),q2,q3,st.facts⟩
end

def qr{α:Type}(r:Rp α)(n:Nat):Rp (List α) where
 sz:=n*r.sz
 agg:=true
 rc:=fun S cs xs=>xs.length=n/\uh r S cs xs
 mono:=fun h ⟨V,Z⟩=>⟨V,tY h Z⟩
 len:=fun⟨V,Z⟩=>by rw [mF Z,V]
 one:=fun⟨_,Z⟩=>CM Z
 sc:=fun h=>by cases h
section
section
variable{ty:TypeId}
def qv{e:TypeId}{i:Int}(M:E.P.underlying t=some (.array n e))(ti:TI E.P e sz bytes agg z)(hm:bx (qr r n) T b xs∈O)(A:bf E.N G x (tV (an b 0)))(hi:bf E.N G ix (H (rI k) i))(hy:fB xs i=some y):
  cE E O G ⟨dst,.indexAddr t x ix,ty,pos,after,g⟩ (tV (an b (i.toNat*sz))):=
 .of_pure fun a w S _ ho hf=>by
  have V:a.eval x=an b 0:=A S a hf
  have h5:a.eval ix= .int k i:=ge.1 (hi S a hf)
  obtain⟨⟨_,c,_,h4,_⟩,_⟩:=ho.mem _ hm
  obtain⟨h0,hy'⟩:=kG hy
  have hlt:i.toNat<xs.length:=(ui.1 hy').1
  have hc:0<=i/\i<(n:Int):=⟨h0,by omega⟩
  refine⟨_,?_,rfl⟩
  simp [execOp,V,h5,an,Instr.indexAt,asIntOf,ka M,Instr.sureAddr,hc,ti.sizeOf,jD]
end
def Vi{i:Int}(hy:fB xs i=some y){cs:List Value}(h:(qr r n).rc S cs xs):r.rc S ((cs.drop (i.toNat*r.sz)).take r.sz) y:=CO h.2 (kG hy).2
def GO{i:Int}{p:Operand}{ty:TypeId}(ti:TI E.P U sz bytes agg z)(hsz:r.sz=sz)(hag:r.agg=agg)(hm:bx (qr r n) T b xs∈O)(hy:fB xs i=some y)(hp:bf E.N G p (tV (an b (i.toNat*r.sz)))):cE E O G ⟨dst,.load U p,ty,pos,after,g⟩ (H r y):=
 .of_pure fun a w S _ ho hf=>by
  have V:a.eval p=an b (i.toNat*r.sz):=hp S a hf
  obtain⟨⟨_,cur,h5,h6⟩,_⟩:=ho.mem _ hm
  have h7:=Vi hy h6
  refine⟨_,?_,_,rfl,h7⟩
  simp [execOp,V,an,Instr.loadAt,Instr.sureAddr,lT ti h5 hsz hag h7]
def RR{v:α}{i:Int}{p:Operand}{ty:TypeId}(ti:TI E.P U sz bytes agg z)(hsz:r.sz=sz)(hy:fB xs i=some y)(hz:xs.set i.toNat v=zs)(hp:bf E.N G p (tV (an b (i.toNat*r.sz))))(hv:bf E.N G x (H r v))(k:RG E ops ah rest (bx (qr r n) T b zs::O) G):RG E ops ah (⟨none,.store U p x,ty,pos,after,none⟩::rest) (bx (qr r n) T b xs::O) G:= .of rfl fun a w S st=>by
 subst hz
 have V:a.eval p=an b (i.toNat*r.sz):=hp S a st.facts
 obtain⟨ds,Z,h3⟩:=hv S a st.facts
 obtain⟨⟨hno,cur,h5,h6⟩,_⟩:=st.own.1
 obtain⟨h0,hy'⟩:=kG hy
 have hlt:i.toNat<xs.length:=(ui.1 hy').1
 have hl:=mF h6.2
 simp only [HU]at hl
 have hmul:i.toNat*r.sz+r.sz<=xs.length*r.sz:=by rw [<-Nat.succ_mul];exact Bo _ hlt
 obtain⟨w',hr,e1,e2,e3,e4,e5,e6⟩:=jT ti hsz h3 h5 (off:=i.toNat*r.sz) (by omega)
 have hrun:(execOp a.eval ⟨none,.store U p x,ty,pos,after,none⟩).run E.P w= .ok .skip w' :=by
  simp [execOp,V,Z,Instr.storeAt,an,Instr.sureAddr,hr]
 refine⟨fun c h=>(by cases h),?_⟩
 rw [hrun]
 obtain⟨g1,g2,g3⟩:=ne (O:=O) st.sat (bx (qr r n) T b xs) (bx (qr r n) T b (xs.set i.toNat v)) st.own (fun _=>vl) (fun _=>vl) ⟨e1,e2,e3,e4.1,e4.2⟩ e6 ⟨hno,_,e5,by rw [FW];exact h6.1,CL h3 h6.2 hlt⟩ hno
 exact k _ _ S ⟨st.ext.step g1 (fun c hc=>st.own.1.2 c hc),g2,g3,st.facts⟩
end
def A6{α:Type}{r:Rp α}{c:Value}{x:α}(h: ∀S,r.rc S [c] x)(S:SH): ∀n,uh r S (List.replicate n c) (List.replicate n x)
 |0=>rfl
 |n+1=>⟨[c],_,rfl,h S,A6 h S n⟩
def HB{c:Value}{x:α}(n:Nat)(h: ∀S,r.rc S [c] x): ∀S,(qr r n).rc S (List.replicate n c) (List.replicate n x):=fun S=>⟨List.length_replicate,A6 h S n⟩
def Yl(n:Nat):Option Unit:=if n<=68719476736 then some ()else none
def Jf{x:α}(h:dN xs lo (xs.length:Int)=some ys)(hz:xs.take lo.toNat++List.replicate ys.length x=zs):zs.length=xs.length:=by
 obtain⟨l,m,rfl,hm,V,Z,rfl⟩:=gN h
 have hm' :m=xs.length:=by omega
 subst hm'
 rw [<-hz]
 simp
 omega

def tC(n:FuncId)(cts:List Ty):Ty where
 p:=fun S v=> ∃cap:List Value,v= .func (.func n) #[] cap.toArray/\AR S cts cap
 mono:=fun h ⟨cap,e,k⟩=>⟨cap,e,AR.mono h k⟩
section
section
variable{ty:TypeId}
def SR{fid:FuncId}{caps:List Operand}{cts:List Ty}(hcap:kL E.N G caps cts):cE E O G ⟨dst,.makeFunc (.func fid) #[] caps.toArray,ty,pos,after,g⟩ (tC fid cts):=
 .of_pure fun a w S _ _ hf=>⟨.func (.func fid) #[] (caps.map a.eval).toArray,by simp [execOp,Instr.makeFunc],_,rfl,hcap.tys hf⟩
end
def RB{n:FuncId}{cts:List Ty}{ty:TypeId}{fo:Operand}{xs:List Operand}(O1 Or:List OE){t:OI->Ty}{O2:OI->List OE}(hO:O=O1++Or)(hc:ak E.P n=true)(hs:ea E.P n (ts++cts) O1 t O2)(hf:bf E.N G fo (tC n cts))(A:kL E.N G xs ts)(hpost: ∀i,O2 i++Or=post i):
  EffOK E O G ⟨some aE,.call ⟨.value fo,xs.toArray,ats⟩,ty,pos,after,g⟩ post t:=fun a w S hsat ho hF Y=>by
 subst hO
 obtain rfl:(fun i=>O2 i++Or)=post:=funext hpost
 obtain⟨cap,e,hcap⟩:=hf S a hF
 have hr:(execOp a.eval ⟨some aE,.call ⟨.value fo,xs.toArray,ats⟩,ty,pos,after,g⟩).run E.P w= .ok (.enter n ((xs.map a.eval).toArray++cap.toArray)) w:=by
  simp [execOp,resolve,e,Deferred.ofValue,invoke,ko hc]
 refine⟨fun c h=>(by cases h),?_⟩
 rw [hr]
 have e2:(xs.map a.eval).toArray++cap.toArray=((xs.map a.eval)++cap).toArray:=by simp
 rw [e2]
 exact(hs w S _ hsat ((A.tys hF).append hcap) (rk ho).1.weak).mono fun en w' ⟨i,v,S',he,hv,V,Z,h3,h4⟩=>⟨_,he,v,S',i,rfl,V.more fun b ⟨f,hf,Y⟩=>⟨f,HV _ hf,Y⟩,Z,dI.turn ho Y V h3 h4,hv⟩
end

def Ia{α:Type}(xs:List α)(lo:Int)(n:Nat)(i:Int):Option α:=if 0<=i/\i<(n:Int)then fB xs (lo+i)else none
def Al{i:Int}(h:Ia xs lo n i=some y):0<=i/\i<(n:Int)/\fB xs (lo+i)=some y:=by
 unfold Ia at h
 split at h
 ·rename_i hc;exact⟨hc.1,hc.2,h⟩
 ·cases h
def DE(h:dN xs lo hi=some ys):0<=lo:=by
 obtain⟨l,m,rfl,_,_,_,_⟩:=gN h
 omega
section
def sk(hm:mj mm r T l cap xs∈O)(hs:dN xs lo hi=some ys)(h:(l=none->ys.length=0)/\ys.length<=maxLen->RG E ops ah rest O G):RG E ops ah rest O G:=fun a w S st=>by
 refine h ?_ a w S st
 obtain⟨cells,V,_⟩:=(st.own.mem _ hm).1
 obtain⟨l',m,_,_,_,h8,rfl⟩:=gN hs
 have hlen:((xs.take m).drop l').length<=xs.length:=by simp;omega
 cases l with
 |none=>have:=V.1;exact⟨fun _=>by omega,by omega⟩
 |some b=>obtain⟨cur,_,g2,g3,_⟩:=V;exact⟨fun h=>(by cases h),by omega⟩
section
variable{ty:TypeId}
def Pe{lo:Nat}{e:TypeId}(M:E.P.underlying t=some (.slice e))(hv:l=none->n=0)(A:bf E.N G x (tV (o0 sz l cap lo n))):
  cE E O G ⟨dst,.call ⟨.builtin .len,#[x],#[t]⟩,ty,pos,after,g⟩ (H (rI .i64) (n:Int)):=
 .of_pure fun a w S _ ho hf=>by
  have V:a.eval x=o0 sz l cap lo n:=A S a hf
  obtain⟨ad,c,h3⟩: ∃ad c,o0 sz l cap lo n= .slice ad n c:=by
   cases l with
   |none=>rw [hv rfl];exact⟨none,0,rfl⟩
   |some b=>exact⟨_,_,rfl⟩
  refine⟨.int .i64 n,?_,ge.2 rfl⟩
  simp [execOp,resolve,invoke,builtin,Builtin.len_,ka M,V,h3,goInt]
def wQ{e:TypeId}{i:Int}(M:E.P.underlying t=some (.slice e))(ti:TI E.P e sz bytes agg z)(hsz:r.sz=sz)(hm:mj mm r U l cap xs∈O)(hl0:0<=lo)(A:bf E.N G x (tV (o0 sz l cap lo.toNat n)))(hi' :bf E.N G ix (H (rI k) i))(hy:Ia xs lo n i=some y):
  cE E O G ⟨dst,.indexAddr t x ix,ty,pos,after,g⟩ (tV (dS l ((lo+i).toNat*sz+0))):=
 .of_pure fun a w S _ ho hf=>by
  subst hsz
  have V:a.eval x=o0 r.sz l cap lo.toNat n:=A S a hf
  have h3:a.eval ix= .int k i:=ge.1 (hi' S a hf)
  obtain⟨hi0,hin,hxi⟩:=Al hy
  obtain⟨_,hx'⟩:=kG hxi
  obtain⟨b,cur,rfl,_,hle,_⟩:=rM (ho.mem _ hm).1 hx'
  have hlt2:(lo+i).toNat<xs.length:=(ui.1 hx').1
  have hne: ¬(cap=lo.toNat):=by omega
  refine⟨_,?_,rfl⟩
  have hc:0<=i/\i<(n:Int):=⟨hi0,hin⟩
  have e1:(lo+i).toNat=lo.toNat+i.toNat:=by omega
  simp [execOp,V,h3,o0,hne,Instr.indexAt,asIntOf,ka M,hc,ti.sizeOf,jD,dS,an,e1,AE]
end
end

section
variable{ty:TypeId}{l:List Oper}
end

def Yd [Inhabited α]{c b:Bool}{x:Option α}{k:α->Option β}{aE:Option β}{r:β}(h:c=true->(if b=true then x.bind k else aE)=some r): ∃y,((c&&b)=true->x=some y/\k y=some r)/\(c=true->b=false->aE=some r):=by
 cases c with
 |false=>exact⟨default,fun e=>(by cases e),fun e=>(by cases e)⟩
 |true=>
  obtain⟨y,V,Z⟩:=og (h rfl)
  exact⟨y,fun e=>V e,fun _ e=>Z e⟩
def ij{κ β:Type} [DecidableEq κ]:List (κ×β)->κ->Option β
 |[],_=>none
 |p::m,k=>if p.1=k then some p.2 else ij m k
def kq{κ β:Type} [DecidableEq κ]:List (κ×β)->κ->β->List (κ×β)
 |[],k,v=>[(k,v)]
 |p::m,k,v=>if p.1=k then(k,v)::m else p::kq m k v
def Bh{κ:Type}(P:Program)(kt:TypeId)(kv:κ->Value):Prop:= ∃aE,P.underlying kt=some aE/\(∀a,MapKept.IsKey aE (kv a))/\ ∀a b,kv a=kv b->a=b
def kvI(k:IntKind)(n:Int):Value:= .int k n
def ez(s:cS):Value:= .string ⟨s.toArray⟩
variable{kt:TypeId}
def xY(h:P.underlying kt=some (.int k)):Bh P kt (kvI k):=⟨_,h,fun _=>rfl,fun a b e=>by injection e⟩
def CY(h:P.underlying kt=some .string):Bh P kt ez:=⟨_,h,fun _=>trivial,fun a b e=>by
 injection e with e
 injection e with e
 simpa using congrArg Array.toList e⟩
structure MV(β:Type) where
 p:World->SH->β->Option Nat×Nat->Value->Prop
 here: ∀{w S y o v},p w S y o v-> ∀j,o.1=some j->j<w.heap.size
 kept: ∀{C w w' S S' y o v},p w S y o v->lr C w S w' S' ->(∀j,o.1=some j-> ¬C j)->p w' S' y o v
def JQ{β:Type}(ty:β->Ty):MV β where
 p:=fun _ S y o v=>o.1=none/\(ty y).p S v
 here:=fun h j hj=>by rw [h.1]at hj;cases hj
 kept:=fun h k _=>⟨h.1,(ty _).mono k.keep h.2⟩
def Xa{α:Type}(r:Rp α)(T:TypeId):MV (List α) where
 p:=fun w S xs o v=>v=J o.1 o.2 xs.length/\AQ true r T o.1 o.2 xs w S
 here:=fun{w S y o v} h j hj=>(mj true r T o.1 o.2 y).here h.2 j hj
 kept:=fun{C w w' S S' y o v} h k hC=>⟨h.1,(mj true r T o.1 o.2 y).kept h.2 k hC⟩
section
variable{κ:Type} [DecidableEq κ]{h1:MV β}{kv:κ->Value}{aE:TypeDesc}{k:κ}
def yZ(h1:MV β)(kv:κ->Value)(w:World)(S:SH)(h:Option κ):List MapEntry->List (Option Nat×Nat)->List (κ×β)->Prop
 |[],[],[]=>True
 |e::es,o::os,q::m=>e.key=kv q.1/\(if h=some q.1 then o.1=none else h1.p w S q.2 o e.val)/\(∀o' ∈os,∀j,o.1=some j->o'.1≠some j)/\(∀p∈m,p.1≠q.1)/\yZ h1 kv w S h es os m
 |_,_,_=>False
def Ja{h:Option κ}: ∀{es:List MapEntry} {os:List (Option Nat×Nat)} {m:List (κ×β)},yZ h1 kv w S h es os m-> ∀o∈os,∀j,o.1=some j->j<w.heap.size
 |[],[],[],_,o,ho,_,_=>by cases ho
 |e::es,o::os,q::m,⟨_,Z,_,_,h5⟩,o',ho,j,hj=>by
  rcases gw.1 ho with rfl|ho
  ·split at Z
   ·rw [Z]at hj;cases hj
   ·exact h1.here Z j hj
  ·exact Ja h5 o' ho j hj
def Da{C:Nat->Prop}(k:lr C w S w' S'){h:Option κ}: ∀{es:List MapEntry} {os:List (Option Nat×Nat)} {m:List (κ×β)},yZ h1 kv w S h es os m->(∀o∈os,∀j,o.1=some j-> ¬C j)->yZ h1 kv w' S' h es os m
 |[],[],[],_,_=>trivial
 |e::es,o::os,q::m,⟨V,Z,h3,h4,h5⟩,hC=>⟨V,by
  split
  ·rename_i hh;rw [cz hh]at Z;exact Z
  ·rename_i hh;rw [cr hh]at Z;exact h1.kept Z k (hC o (oa ..)),h3,h4,Da k h5 fun o' ho=>hC o' (oD _ ho)⟩
def ET{h:Option κ}: ∀{es:List MapEntry} {os:List (Option Nat×Nat)} {m:List (κ×β)},yZ h1 kv w S h es os m->(∀p∈m,h≠some p.1)->yZ h1 kv w S none es os m
 |[],[],[],_,_=>trivial
 |e::es,o::os,q::m,⟨V,Z,h3,h4,h5⟩,hk=>⟨V,by
  rw [cr (hk q (oa ..))]at Z
  rw [cr (by simp)];exact Z,h3,h4,ET h5 fun p hp=>hk p (oD _ hp)⟩
def uP(hd: ∀a,MapKept.IsKey aE (kv a))(hi: ∀a b,kv a=kv b->a=b)(a b:κ):Instr.sameNow aE (kv a) (kv b)=some (decide (a=b)):=by
 obtain⟨r,V,Z⟩:=MapKept.sameNow_of_keys (hd a) (hd b)
 rw [V]
 by_cases h:a=b
 ·subst h;rw [Z.2 rfl];simp
 ·rw [uj h]
  cases r with
  |false=>rfl
  |true=>exact absurd (hi _ _ (Z.1 rfl)) h
def qZ(hd: ∀a,MapKept.IsKey aE (kv a))(hi: ∀a b,kv a=kv b->a=b): ∀{es:List MapEntry} {os:List (Option Nat×Nat)} {m:List (κ×β)} (i:Nat),yZ h1 kv w S none es os m->
  ∃os',(∀x∈os',x∈os\/x.1=none)/\yZ h1 kv w S (some k) es os' m/\
   ((ij m k=none/\Instr.findNow aE (kv k) es i=some none)\/ ∃(y:β) (o:Option Nat×Nat) (e:MapEntry) (j:Nat),ij m k=some y/\o∈os/\h1.p w S y o e.val/\Instr.findNow aE (kv k) es i=some (some (j,e.val))/\ ∀x∈os',∀q,o.1=some q->x.1≠some q)
 |[],[],[],i,_=>⟨[],fun x A=>(by cases A),trivial,.inl ⟨rfl,rfl⟩⟩
 |e::es,o::os,q::m,i,⟨V,Z,h3,h4,h5⟩=>by
  rw [cr (by simp)]at Z
  by_cases hk:q.1=k
  ·refine⟨(none,0)::os,fun x A=>?_,⟨V,by rw [cz (by rw [hk])],fun _ _ _ hj=>(by cases hj),h4,?_⟩,.inr ⟨q.2,o,e,i,by unfold ij;rw [cz hk],oa ..,Z,?_,fun x A j hj=>?_⟩⟩
   ·rcases gw.1 A with rfl|A
    ·exact .inr rfl
    ·exact .inl (oD _ A)
   ·have: ∀{es:List MapEntry} {os:List (Option Nat×Nat)} {m:List (κ×β)},yZ h1 kv w S none es os m->(∀p∈m,p.1≠k)->yZ h1 kv w S (some k) es os m:=by
     intro es
     induction es with
     |nil=>intro os m h _;cases os<;>cases m<;>first|trivial|exact h.elim
     |cons e es ih=>
      intro os m h hm
      cases os with
      |nil=>cases m<;>exact h.elim
      |cons o os=>
       cases m with
       |nil=>exact h.elim
       |cons q m=>
        obtain⟨g1,g2,g3,g4,g5⟩:=h
        rw [cr (by simp)]at g2
        exact⟨g1,by rw [cr (fun e=>hm q (oa ..) (ro e).symm)];exact g2,g3,g4,ih g5 fun p hp=>hm p (oD _ hp)⟩
    exact this h5 (fun p hp=>by rw [<-hk];exact h4 p hp)
   ·unfold Instr.findNow
    rw [V,uP hd hi,hk,rr rfl]
   ·rcases gw.1 A with rfl|A
    ·exact fun e=>by cases e
    ·exact h3 x A j hj
  ·obtain⟨os',g1,g2,g3⟩:=qZ hd hi (i+1) h5
   refine⟨o::os',fun x A=>?_,⟨V,by rw [cr (fun e=>hk (ro e).symm)];exact Z,fun o' ho' j hj=>?_,h4,g2⟩,?_⟩
   ·rcases gw.1 A with rfl|A
    ·exact .inl (oa ..)
    ·exact(g1 x A).imp (oD _) id
   ·rcases g1 o' ho' with h|h
    ·exact h3 o' h j hj
    ·rw [h];exact fun e=>by cases e
   ·have hf:Instr.findNow aE (kv k) (e::es) i=Instr.findNow aE (kv k) es (i+1):=by
     conv=>lhs;unfold Instr.findNow
     rw [V,uP hd hi,uj (fun e=>hk e.symm)]
    have hm:ij (q::m) k=ij m k:=by conv=>lhs;unfold ij;rw [cr hk]
    rw [hf,hm]
    refine g3.imp id fun⟨y,o1,e1,j,f1,f2,f3,f4,f5⟩=>⟨y,o1,e1,j,f1,oD _ f2,f3,f4,fun x A q hq=>?_⟩
    rcases gw.1 A with rfl|A
    ·exact fun e=>h3 o1 f2 q e hq
    ·exact f5 x A q hq
def EM(x:α)(xs:List α)(j:Nat)(f:α->α):(x::xs).modify (j+1) f=x::xs.modify j f:=by simp [List.modify_succ_cons]
def Jb(hd: ∀a,MapKept.IsKey aE (kv a))(hi: ∀a b,kv a=kv b->a=b){y:β}{o:Option Nat×Nat}{v:Value}{born:Nat}(hv:h1.p w S y o v): ∀{es:List MapEntry} {os:List (Option Nat×Nat)} {m:List (κ×β)} (i:Nat),yZ h1 kv w S (some k) es os m->(∀o' ∈os,∀j,o.1=some j->o'.1≠some j)->
    ∃os',(∀x∈os',x∈os\/x=o)/\
      ((∃(j:Nat) (e:MapEntry),Instr.findNow aE (kv k) es i=some (some (i+j,e.val))/\es[j]? =some e/\e.key=kv k/\yZ h1 kv w S none (es.modify j fun e=>{e with key:=kv k,val:=v}) os' (kq m k y))\/
        (Instr.findNow aE (kv k) es i=some none/\yZ h1 kv w S none (es++[⟨kv k,v,born⟩]) os' (kq m k y)))
  |[],[],[],i,_,_=>⟨[o],fun x A=> .inr (Bn.1 A),.inr ⟨rfl,⟨rfl,by rw [cr (by simp)];exact hv,fun _ h=>(by cases h),fun _ h=>(by cases h),trivial⟩⟩⟩
  |e::es,o1::os,q::m,i,⟨V,Z,h3,h4,h5⟩,ha=>by
    by_cases hk:q.1=k
    · refine⟨o::os,fun x A=>?_,.inl ⟨0,e,?_,rfl,by rw [V,hk],?_⟩⟩
      · rcases gw.1 A with rfl|A
        · exact .inr rfl
        · exact .inl (oD _ A)
      · unfold Instr.findNow
        rw [V,uP hd hi,hk,rr rfl]
        rfl
      · unfold kq
        rw [cz hk,List.modify_zero_cons]
        exact⟨rfl,by rw [cr (by simp)];exact hv,fun o' ho' =>ha o' (oD _ ho'),fun p hp=>by rw [<-hk];exact h4 p hp,
          ET h5 fun p hp e=>h4 p hp (by rw [hk];exact(ro e).symm)⟩
    · obtain⟨os',g1,g2⟩:=Jb hd hi (born:=born) hv (i+1) h5 fun o' ho' =>ha o' (oD _ ho')
      rw [cr (fun e=>hk (ro e).symm)]at Z
      have hf:Instr.findNow aE (kv k) (e::es) i=Instr.findNow aE (kv k) es (i+1):=by
        conv=>lhs;unfold Instr.findNow
        rw [V,uP hd hi,uj (fun e=>hk e.symm)]
      have hm:kq (q::m) k y=q::kq m k y:=by conv=>lhs;unfold kq;rw [cr hk]
      have hap: ∀o' ∈os',∀j,o1.1=some j->o'.1≠some j:=fun o' ho' j hj=>by
        rcases g1 o' ho' with h|rfl
        · exact h3 o' h j hj
        · exact fun e=>ha o1 (oa ..) j e hj
      have hne: ∀p∈kq m k y,p.1≠q.1:=by
        have: ∀m:List (κ×β),(∀p∈m,p.1≠q.1)-> ∀p∈kq m k y,p.1≠q.1:=by
          intro m
          induction m with
          |nil=>intro _ p hp;rw [Bn.1 hp];exact fun e=>hk e.symm
          |cons p0 m ih=>
            intro hm p hp
            unfold kq at hp
            split at hp
            · rcases gw.1 hp with rfl|hp
              · exact fun e=>hk e.symm
              · exact hm p (oD _ hp)
            · rcases gw.1 hp with rfl|hp
              · exact hm _ (oa ..)
              · exact ih (fun p hp=>hm p (oD _ hp)) p hp
        exact this m h4
      rw [hf,hm]
      refine⟨o1::os',fun x A=>?_,g2.imp (fun⟨j,e',f1,f2,f3,f4⟩=>⟨j+1,e',by rw [f1];congr 3;omega,by simpa using f2,f3,?_⟩) fun⟨f1,f2⟩=>⟨f1,?_⟩⟩
      · rcases gw.1 A with rfl|A
        · exact .inl (oa ..)
        · exact(g1 x A).imp (oD _) id
      · rw [EM]
        exact⟨V,by rw [cr (by simp)];exact Z,hap,hne,f4⟩
      · exact⟨V,by rw [cr (by simp)];exact Z,hap,hne,f2⟩
def I9{h:Option κ}: ∀{es:List MapEntry} {os:List (Option Nat×Nat)} {m:List (κ×β)},yZ h1 kv w S h es os m-> ∀x∈es,∃q∈m,x.key=kv q.1
 |[],[],[],_,x,A=>by cases A
 |e::es,o::os,q::m,⟨V,_,_,_,h5⟩,x,A=>by
  rcases gw.1 A with rfl|A
  ·exact⟨q,oa ..,V⟩
  ·obtain⟨q',g1,g2⟩:=I9 h5 x A
   exact⟨q',oD _ g1,g2⟩
def Rr(hd: ∀a,MapKept.IsKey aE (kv a)){h:Option κ}{es:List MapEntry}{os:List (Option Nat×Nat)}{m:List (κ×β)}(h4:yZ h1 kv w S h es os m)(g1:Instr.findNow aE (kv k) es i=some none){x:MapEntry}(A:x∈es):x.key≠kv k:=by
 rcases MapKept.findNow_spec (hd k) es i (fun y hy=>by obtain⟨q,_,e⟩:=I9 h4 y hy;rw [e];exact hd _)with⟨_,Z⟩|⟨j,e,Z,_⟩
 ·exact Z x A
 ·rw [g1]at Z;cases Z
def ci(h1:MV β)(kv:κ->Value)(b:Nat)(h:Option κ)(os:List (Option Nat×Nat))(m:List (κ×β)):OE where
 fp:=fun j=>j=b\/ ∃o∈os,o.1=some j
 p:=fun w S=>S b=none/\(∀o∈os,o.1≠some b)/\ ∃es clock,w.heap[b]? =some (.map es clock)/\yZ h1 kv w S h es.toList os m/\MapKept.Stamped es clock
 here:=by
  intro w S ⟨_,_,es,clock,h3,h4,_⟩ j hj
  rcases hj with rfl|⟨o,ho,hj⟩
  ·exact(Bq.1 h3).1
  ·exact Ja h4 o ho j hj
 kept:=by
  intro C w w' S S' ⟨V,Z,es,clock,h3,h4,hst⟩ k hC
  have hlt:=(Bq.1 h3).1
  exact⟨by rw [k.old b hlt (hC b (.inl rfl))];exact V,Z,es,clock,by rw [k.heap b hlt (hC b (.inl rfl))];exact h3,Da k h4 (fun o ho j hj=>hC j (.inr ⟨o,ho,hj⟩)),hst⟩
def aG(b:Nat):Value:= .map (some b)
end
variable{r' :Rp γ}
section
variable{κ:Type} [DecidableEq κ]{h1:MV β}{kv:κ->Value}{os:List (Option Nat×Nat)}{m:List (κ×β)}{k:κ}{et:TypeId}{i v:Operand}{dst:Option Nat}{ty:TypeId}
def yT(N:Fr)(G:mK)(x:Operand)(u:Value):Prop:= ∀S a,du N S a G->a.eval x=u
def NI{N:Fr}{q:IntKind}{n:Int}(h:bf N G x (H (rI q) n)):yT N G x (kvI q n):=fun S a hf=>ge.1 (h S a hf)
def S4{N:Fr}{n:cS}(h:bf N G x (H rS n)):yT N G x (ez n):=fun S a hf=>uo.1 (h S a hf)
def ZV(P:Program)(T:TypeId)(z:Value):Prop:=(P.info? T).bind (·.zero)=some z
def ZV.run{z:Value}(h:ZV P T z)(w:World):(zeroValue T).run P w= .ok z w:=by
 unfold ZV at h
 cases hi:P.info? T with
 |none=>rw [hi]at h;cases h
 |some i=>
  rw [hi]at h
  have h' :i.zero=some z:=h
  simp [zeroValue,typeInfo,hi,h']
def BV(h1:MV β)(kv:κ->Value)(hd:Nat.blt aE E.N.n=true)(k: ∀b,RG E ops ah rest (ci h1 kv b none [] []::O) ((aE,tV (aG b))::G)):
  RG E ops ah (⟨some aE,.makeMap t none,ty,pos,after,none⟩::rest) O G:= .of rfl fun a w S st=>by
 obtain⟨he,hs',hno⟩:=lH (w:=w) (.map #[] 0) st.sat
 have hrun:(execOp a.eval ⟨some aE,.makeMap t none,ty,pos,after,none⟩).run E.P w= .ok (.value (aG w.heap.size)) (w.alloc (.map #[] 0)):=by
  simp [execOp,Instr.makeMap,aG]
 refine⟨fun c h=>(by cases h),?_⟩
 rw [hrun]
 exact k w.heap.size _ _ S ⟨st.ext.step0 he,hs',uW st.own he ⟨hno,fun _ h=>(by cases h),#[],0,AS w _,trivial,MapKept.stamped_empty 0⟩ (fun b Y=>by
  rcases Y with rfl|⟨_,h,_⟩
  ·exact gc _
  ·cases h) st.base_le,st.facts.put hd rfl⟩
def lD{kk:Value}{es:Array MapEntry}{clock:Nat}{q:TypeDesc}{z:Value}{u:Option (Nat×Value)}(hm:P.underlying t=some (.map kt et))(hq:P.underlying kt=some q)(hk:MapKept.IsKey q kk)(Y:w.heap[b]? =some (.map es clock))(hz:ZV P et z)(hf:Instr.findNow q kk es.toList 0=some u)(c:Bool):(Instr.lookup t (aG b) kk c).run P w= .ok (if c then .tuple #[(u.map (·.2)).getD z,.bool u.isSome]else(u.map (·.2)).getD z) w:=by
 cases u with
 |none=>simp [Instr.lookup,aG,ka hm,KB Y,OB hq hk,MapKept.run_findKey hq hf,hz.run,Result.andThen]
 |some r=>simp [Instr.lookup,aG,ka hm,KB Y,OB hq hk,MapKept.run_findKey hq hf,Result.andThen]
def Nt{γ:β->Ty}{z:β}{zv:Value}(hm:E.P.underlying t=some (.map kt et))(hk:Bh E.P kt kv)(hz:ZV E.P et zv)(hzt: ∀S,(γ z).p S zv)(hmem:ci (JQ γ) kv b none os m∈O)(A:bf E.N G x (tV (aG b)))(hi:yT E.N G i (kv k)):
  cE E O G ⟨dst,.lookup t x i false,ty,pos,after,g⟩ (γ ((ij m k).getD z)):= .of_pure fun a w S hs ho hf=>by
 obtain⟨⟨_,_,es,clock,h3,h4,_⟩,_⟩:=dI.mem ho _ hmem
 obtain⟨q,hq,hd,hinj⟩:=hk
 have V:a.eval x=aG b:=A S a hf
 have Z:a.eval i=kv k:=hi S a hf
 obtain⟨_,_,_,h5⟩:=qZ hd hinj (k:=k) 0 h4
 rcases h5 with⟨g1,g2⟩|⟨y,o,e,j,g1,g2,g3,g4,g5⟩
 ·refine⟨zv,by simp [execOp,V,Z,lD hm hq (hd k) h3 hz g2],by rw [g1];exact hzt S⟩
 ·refine⟨e.val,by simp [execOp,V,Z,lD hm hq (hd k) h3 hz g4],by rw [g1];exact g3.2⟩
def Nu{m:List (κ×List α)}(hm:E.P.underlying t=some (.map kt et))(hk:Bh E.P kt kv)(hz:ZV E.P et (.slice none 0 0))(hmem:ci (Xa r T) kv b none os m∈O)(A:bf E.N G x (tV (aG b)))(hi:yT E.N G i (kv k)):
  cE E O G ⟨dst,.lookup t x i false,ty,pos,after,g⟩ (H (eO r) ((ij m k).getD [])):= .of_pure fun a w S hs ho hf=>by
 obtain⟨⟨_,_,es,clock,h3,h4,_⟩,_⟩:=dI.mem ho _ hmem
 obtain⟨q,hq,hd,hinj⟩:=hk
 have V:a.eval x=aG b:=A S a hf
 have Z:a.eval i=kv k:=hi S a hf
 obtain⟨_,_,_,h5⟩:=qZ hd hinj (k:=k) 0 h4
 rcases h5 with⟨g1,g2⟩|⟨y,o,e,j,g1,g2,g3,g4,g5⟩
 ·refine⟨.slice none 0 0,by simp [execOp,V,Z,lD hm hq (hd k) h3 hz g2],by rw [g1];exact Cu⟩
 ·refine⟨e.val,by simp [execOp,V,Z,lD hm hq (hd k) h3 hz g4],by rw [g1,g3.1];exact m7 g3.2⟩
def DN{kk:Value}{es:Array MapEntry}{clock:Nat}{q:TypeDesc}{val:Value}(hm:P.underlying t=some (.map kt et))(hq:P.underlying kt=some q)(hk:MapKept.IsKey q kk)(Y:w.heap[b]? =some (.map es clock)):
  (Instr.findNow q kk es.toList 0=some none->(Instr.mapUpdate t (aG b) kk val).run P w= .ok () {w with heap:=w.heap.setIfInBounds b (.map (es.push ⟨kk,val,clock⟩) (clock+1))})/\
  (∀j e,Instr.findNow q kk es.toList 0=some (some (j,e))->(∀e',es.toList[j]? =some e' ->e'.key=kk)->(∃e',es.toList[j]? =some e')->(Instr.mapUpdate t (aG b) kk val).run P w= .ok () {w with heap:=w.heap.setIfInBounds b (.map (es.modify j fun e=>{e with key:=kk,val:=val}) clock)}):=by
 refine⟨fun hf=>?_,fun j e hf hj he=>?_⟩
 ·simp [Instr.mapUpdate,aG,ka hm,KB Y,OB hq hk,MapKept.run_findKey hq hf,OJ _ Y,Result.andThen]
 ·obtain⟨e',he'⟩:=he
  have V:=hj e' he'
  have Z:es[j]? =some e' :=by simpa using he'
  simp [Instr.mapUpdate,aG,ka hm,KB Y,OB hq hk,MapKept.run_findKey hq hf,OJ _ Y,Result.andThen,Z,V,MapKept.run_keyThatStays hk]
def DY{y:β}{o:Option Nat×Nat}{val:Value}(hs:mT w S)(hm:E.P.underlying t=some (.map kt et))(hk:Bh E.P kt kv)(hp:(ci h1 kv b (some k) os m).p w S)(hv:h1.p w S y o val)(hob:o.1≠some b)(hap: ∀o' ∈os,∀j,o.1=some j->o'.1≠some j):
  ∃w' os',(Instr.mapUpdate t (aG b) (kv k) val).run E.P w= .ok () w' /\lr (fun j=>j=b) w S w' S/\mT w' S/\(ci h1 kv b none os' (kq m k y)).p w' S/\(∀j,(ci h1 kv b none os' (kq m k y)).fp j->(ci h1 kv b (some k) os m).fp j\/o.1=some j):=by
 obtain⟨hno,hnb,es,clock,h3,h4,hst⟩:=hp
 obtain⟨q,hq,hdk,hinj⟩:=hk
 obtain⟨os',p1,p2⟩:=Jb hdk hinj (born:=clock) hv 0 h4 hap
 have hnb' : ∀o' ∈os',o'.1≠some b:=fun o' ho' =>by
  rcases p1 o' ho' with h|rfl
  ·exact hnb o' h
  ·exact hob
 have hfp: ∀j,(j=b\/ ∃o∈os',o.1=some j)->(j=b\/ ∃o∈os,o.1=some j)\/o.1=some j:=fun j hj=>by
  rcases hj with h|⟨o',ho',e⟩
  ·exact .inl (.inl h)
  ·rcases p1 o' ho' with h|rfl
   ·exact .inl (.inr ⟨o',h,e⟩)
   ·exact .inr e
 have hw: ∀X:Obj,lr (fun j=>j=b) w S {w with heap:=w.heap.setIfInBounds b X} S/\mT {w with heap:=w.heap.setIfInBounds b X} S/\({w with heap:=w.heap.setIfInBounds b X}:World).heap[b]? =some X:=fun X=>
  ⟨⟨rfl,rfl,rfl,gc _,by simp,fun j _ hj=>(MapKept.heap_set (o' :=X) h3).2 j hj,SH.le_refl _,fun _ _ _=>rfl⟩,hs.same fun j o hj=>(MapKept.heap_set (o' :=X) h3).2 j (fun e=>by subst e;rw [hno]at hj;cases hj),(MapKept.heap_set h3).1⟩
 obtain⟨r1,r2⟩:=DN (val:=val) hm hq (hdk k) h3
 rcases p2 with⟨j,e,g1,g2,g3,g4⟩|⟨g1,g2⟩
 ·rw [sB]at g1
  obtain⟨x1,x2,x3⟩:=hw (.map (es.modify j fun e=>{e with key:=kv k,val:=val}) clock)
  refine⟨_,os',r2 j _ g1 (fun e' he' =>by rw [g2]at he';cases he';exact g3) ⟨_,g2⟩,x1,x2,⟨hno,hnb',_,_,x3,?_,MapKept.stamped_modify hst j _ (fun _ _=>rfl) (fun e' _ he' =>by rw [<-OF,g2]at he';cases he';exact g3.symm)⟩,hfp⟩;refine Da x1 (by rw [Array.toList_modify];exact g4) fun o' ho' j hj e=>?_
  subst e
  exact hnb' o' ho' hj
 ·obtain⟨x1,x2,x3⟩:=hw (.map (es.push ⟨kv k,val,clock⟩) (clock+1))
  refine⟨_,os',r1 g1,x1,x2,⟨hno,hnb',_,_,x3,?_,MapKept.stamped_push hst (fun x A e=>?_)⟩,hfp⟩
  rotate_left
  ·exact Rr hdk h4 g1 A e
  refine Da x1 (by rw [Array.toList_push];exact g2) fun o' ho' j hj e=>?_
  subst e
  exact hnb' o' ho' hj
def WI{γ:β->Ty}{y:β}(hm:E.P.underlying t=some (.map kt et))(hk:Bh E.P kt kv)(A:bf E.N G x (tV (aG b)))(hi:yT E.N G i (kv k))(hv:bf E.N G v (γ y))
  (h: ∀os',RG E ops ah rest (ci (JQ γ) kv b none os' (kq m k y)::O) G):
  RG E ops ah (⟨none,.mapUpdate t x i v,ty,pos,after,none⟩::rest) (ci (JQ γ) kv b none os m::O) G:= .of rfl fun a w S st=>by
 have V:a.eval x=aG b:=A S a st.facts
 have Z:a.eval i=kv k:=hi S a st.facts
 have h3:(γ y).p S (a.eval v):=hv S a st.facts
 obtain⟨⟨hp,hfp⟩,hap,hO⟩:=st.own
 obtain⟨hno,hnb,es,clock,e3,e4,hst⟩:=hp
 obtain⟨q,hq,hdk,hinj⟩:=hk
 obtain⟨os1,p1,p2,_⟩:=qZ hdk hinj (k:=k) 0 e4
 have hnb1: ∀o∈os1,o.1≠some b:=fun o ho=>by
  rcases p1 o ho with h|h
  ·exact hnb o h
  ·rw [h];exact fun e=>by cases e
 obtain⟨w',os',r,x1,x2,x3,x4⟩:=DY (h1:=JQ γ) (E:=E) (y:=y) (o:=(none,0)) (val:=a.eval v) st.sat hm ⟨q,hq,hdk,hinj⟩ ⟨hno,hnb1,es,clock,e3,p2,hst⟩ ⟨rfl,h3⟩ (fun e=>by cases e) (fun _ _ _ e=>by cases e)
 have hrun:(execOp a.eval ⟨none,.mapUpdate t x i v,ty,pos,after,none⟩).run E.P w= .ok .skip w' :=by simp [execOp,V,Z,r]
 refine⟨fun c h=>(by cases h),?_⟩
 rw [hrun]
 have hfp' : ∀j,(ci (JQ γ) kv b none os' (kq m k y)).fp j->(ci (JQ γ) kv b none os m).fp j:=fun j hj=>by
  rcases x4 j hj with(h|⟨o,ho,e⟩)|e
  ·exact .inl h
  ·rcases p1 o ho with h|h
   ·exact .inr ⟨o,h,e⟩
   ·rw [h]at e;cases e
  ·cases e
 exact h os' _ _ S ⟨st.ext.step x1 (fun c hc=>hfp c (.inl hc)),x2,⟨⟨x3,fun j hj=>hfp j (hfp' j hj)⟩,fun f hf j hj=>hap f hf j (hfp' j hj),hO.ext x1 fun f hf j hj hjb=>hap f hf j (.inl hjb) hj⟩,st.facts⟩
def WJ{c:Nat}{m:List (κ×List α)}(hm:E.P.underlying t=some (.map kt et))(hk:Bh E.P kt kv)(A:bf E.N G x (tV (aG b)))(hi:yT E.N G i (kv k))(hv:bf E.N G v (tO r l c xs))(h: ∀os',RG E ops ah rest (ci (Xa r T) kv b none os' (kq m k xs)::O) G):
  RG E ops ah (⟨none,.mapUpdate t x i v,ty,pos,after,none⟩::rest) (K r T l c xs::ci (Xa r T) kv b (some k) os m::O) G:= .of rfl fun a w S st=>by
 have V:a.eval x=aG b:=A S a st.facts
 have Z:a.eval i=kv k:=hi S a st.facts
 have h3:a.eval v=J l c xs.length:=tQ hv S a st.facts
 obtain⟨⟨M,htf⟩,hta,⟨hp,hfp⟩,hap,hO⟩:=st.own
 have hmm:=hta _ (oa ..)
 obtain⟨w',os',r',x1,x2,x3,x4⟩:=DY (h1:=Xa r T) (E:=E) (y:=xs) (o:=(l,c)) (val:=a.eval v) st.sat hm hk hp ⟨h3,M⟩ (fun e=>hmm b e (.inl rfl)) (fun o' ho' j hj e=>hmm j hj (.inr ⟨o',ho',e⟩))
 have hrun:(execOp a.eval ⟨none,.mapUpdate t x i v,ty,pos,after,none⟩).run E.P w= .ok .skip w' :=by simp [execOp,V,Z,r']
 refine⟨fun c h=>(by cases h),?_⟩
 rw [hrun]
 exact h os' _ _ S ⟨st.ext.step x1 (fun c hc=>hfp c (.inl hc)),x2,⟨⟨x3,fun j hj=>(x4 j hj).elim (hfp j) (htf j)⟩,fun f hf j hj=>(x4 j hj).elim (hap f hf j) (fun e=>hta f (oD _ hf) j e),hO.ext x1 fun f hf j hj hjb=>hap f hf j (.inl hjb) hj⟩,st.facts⟩
end

def BF(tmps:Array Value):ResultVar->Sem Value
 | .tmp t=>pure (tmps.getD t undef)
 | .cell a t=>do loadVar t (<-asAddr (tmps.getD a undef))
def Um(P:Program)(N:Fr)(G:mK)(rv:ResultVar)(t:Ty):Prop:= ∀a w S,mT w S->du N S a G-> ∃v,(BF a.tmps rv).run P w= .ok v w/\t.p S v
def bE{N:Fr}{k:Nat}{t:Ty}(hk:look G k=some t):Um P N G (.tmp k) t:=fun a w S _ hf=>⟨_,rfl,hf.at_ k t hk⟩
def di{N:Fr}{k:Nat}{x:α}(ti:TI P T sz bytes agg z)(hsz:r.sz=sz)(hag:r.agg=agg)(hk:look G k=some (bt r x)):Um P N G (.cell k T) (H r x):=fun a w S hs hf=>by
 obtain⟨b,off,c,U,fr,V,Z,h3⟩:=hf.at_ k _ hk
 obtain⟨c',h4,h5⟩:=hs.part Z (r.len h3)
 rw [<-h5]at h3
 have hl:=lT ti h4 hsz hag h3
 have h1' :a.tmps[k]?.getD undef=Value.pointer (some ⟨b,off,none⟩):=by simpa [KC] using V
 exact⟨_,by simp [BF,h1',asAddr,hl],_,rfl,h3⟩
def RQ(P:Program)(N:Fr)(G:mK):List ResultVar->List Ty->Prop
 |[],[]=>True
 |rv::rvs,t::ts=>Um P N G rv t/\RQ P N G rvs ts
 |_,_=>False
def RQ.run{N:Fr}(hs:mT w S)(hf:du N S a G): ∀{rvs:List ResultVar} {ts:List Ty},RQ P N G rvs ts-> ∃vs,(rvs.mapM (BF a.tmps)).run P w= .ok vs w/\AR S ts vs/\vs.length=rvs.length
 |[],[],_=>⟨[],rfl,trivial,rfl⟩
 |rv::rvs,t::ts,⟨V,Z⟩=>by
  obtain⟨v,g1,g2⟩:=V a w S hs hf
  obtain⟨vs,k1,k2,k3⟩:=RQ.run hs hf Z
  exact⟨v::vs,by simp [List.mapM_cons,g1,k1,Result.andThen],⟨g2,k2⟩,by simp [k3]⟩
def lA{rvs:List ResultVar}(hr:fn.results=rvs.toArray)(V:Nat.beq rvs.length 1=false)(h:RQ P ⟨N,[]⟩ G rvs ts):
  AT ⟨P,⟨N,[]⟩,B,w0,S0,none⟩ (bodyPost P fn (N1 ⟨P,⟨N,[]⟩,B,w0,S0,none⟩ (tT ts))) .ret O G:=fun a w S st=>by
 obtain⟨vs,k1,k2,k3⟩:=h.run st.sat st.facts
 have hne: ¬vs.length=1:=by rw [k3];intro e;rw [e]at V;cases V
 refine⟨st.facts.defers,.tuple vs.toArray,?_,_,S,rfl,st.ext,st.sat,vs,rfl,k2⟩
 have e1:(fn.results.mapM (BF a.tmps)).run P w= .ok vs.toArray w:=by
  rw [hr,List.mapM_toArray,Sem.run_map,k1]
  rfl
 have e3:results fn a.tmps=((fn.results.mapM (BF a.tmps))>>=fun vs=>pure (if h:vs.size=1 then vs[0]else .tuple vs)):=rfl
 rw [e3,sq,e1]
 simp [Result.andThen,hne]

def Sx{v:Value}(h:(H (eO r) xs).p S v):(eO r).rc S [v] xs:=by
 obtain⟨cs,e,Z⟩:=h
 obtain⟨a,cap,e2,h3⟩:=Z
 subst e2
 rw [e]
 exact⟨a,cap,rfl,h3⟩
section
variable{ty:TypeId}
def kP{r:Rp β}{get:β->Value}{x:β}{p:Operand}(ti:TI E.P U 1 bytes false z)(hget:jn r off rV get)(hm:bx r T b x∈O)(hv:get x=J l cap n)(hp:bf E.N G p (tV (an b off))):
  cE E O G ⟨dst,.load U p,ty,pos,after,g⟩ (tV (J l cap n)):=(bB (q:=rV) ti rfl rfl hget hm hp).imp fun _ _ h=>by rw [<-hv];exact(Cv.1 h).1
def pO{q:Rp α}{r:Rp β}{get:β->Value}{x:β}{h1:TypeId}{p:Operand}(ti:TI E.P U 1 bytes false z)(hget:jn r off rV get)(hm:bx r T b x∈O)(hm2:K q h1 l cap xs∈O)(hv:get x=J l cap xs.length)(hp:bf E.N G p (tV (an b off))):
  cE E O G ⟨dst,.load U p,ty,pos,after,g⟩ (tO q l cap xs):=fun a w S hs ho hf=>
 pN (fun _ _ ⟨v,S',V,Z,h3,h4⟩=>⟨v,S',V,Z,h3,h4,by
  have h5:v=J l cap xs.length:=h4
  rw [h5]
  exact m7 (((ho.ext0 Z).mem _ hm2).1)⟩) (kP (g:=g) (ty:=ty) (pos:=pos) (after:=after) (dst:=dst) ti hget hm hv hp a w S hs ho hf)
def wR{o:Nat}{p:Operand}(hf:bP E.P T i=some (off,sz))(h0:Nat.beq sz 0=false)(hp:bf E.N G p (tV (an b o)))(he:o+off=n):cE E O G ⟨dst,.fieldAddr T p i,ty,pos,after,g⟩ (tV (an b n)):=by
 subst he
 exact H8 hf h0 hp
def qS{q:Rp α}{r:Rp β}{x:β}{p:Operand}(ti:TI E.P U sz bytes agg z)(hsz:q.sz=sz)(hag:q.agg=agg)(hag2:r.agg=agg)(hsz2:r.sz=sz)(hm:bx r T b x∈O)(hc: ∀w S cs,dI E.base E.B w S O->r.rc S cs x->q.rc S cs y)(hp:bf E.N G p (tV (an b 0))):
  cE E O G ⟨dst,.load U p,ty,pos,after,g⟩ (H q y):= .of_pure fun a w S _ ho hf=>by
 have V:a.eval p=an b 0:=hp S a hf
 obtain⟨⟨_,cur,h5,h6⟩,_⟩:=ho.mem _ hm
 have h7:=hc w S _ ho h6
 have hl:=q.len h7
 have h8:q.rc S ((cur.toList.drop 0).take q.sz) y:=by rw [sC,rt (by omega)];exact h7
 exact⟨_,by simp [execOp,V,an,Instr.loadAt,Instr.sureAddr,lT ti h5 hsz hag h8],_,rfl,h8⟩
def rN{q:Rp α}{h1:TypeId}(ho:dI base B w S O)(hm:K q h1 l cap xs∈O):(eO q).rc S [J l cap xs.length] xs:=Sx (m7 (ho.mem _ hm).1)
end
def rj{α β γ:Type}(r:Rp α)(r' :Rp γ)(off:Nat)(q:Rp β)(x:α)(y:β)(x' :γ):Prop:= ∀S cs ds,r.rc S cs x->q.rc S ds y->r'.rc S (cs.take off++ds++cs.drop (off+q.sz)) x'
def uu{x:α}{y:β}(h:eS r off q set):rj r r off q x y (set x y):=fun S cs ds V Z=>h S cs x ds y V Z
def gk{x:α}{y:γ}(hs:r.sz=r'.sz):rj r r' 0 r' x y y:=fun S cs ds V Z=>by
 have hl:=r.len V
 rw [List.take_zero,qg,rp (by omega),Ce]
 exact Z
def v8{α' :Type}{p:Rp α}{p' :Rp α'}{x:α×β}{y:γ}{x1:α'}(h:rj p p' 0 u x.1 y x1)(hu:Nat.ble u.sz p.sz=true):rj (ck p q) (ck p' q) 0 u x y (x1,x.2):=fun S cs ds ⟨a,b,e,V,Z⟩ hd=>by
 have hl:=p.len V
 have hu' :=ul hu
 have h3:=h S a ds V hd
 subst e
 rw [List.take_zero,qg,sB,ME (by omega),<-gK]
 rw [List.take_zero,qg,sB]at h3
 exact⟨_,_,rfl,h3,Z⟩
def oM{β' :Type}{p:Rp α}{q' :Rp β'}{x:α×β}{y:γ}{off' :Nat}{x2:β'}(h:rj q q' off u x.2 y x2)(ho:off' =p.sz+off):rj (ck p q) (ck p q') off' u x y (x.1,x2):=fun S cs ds ⟨a,b,e,V,Z⟩ hd=>by
 have hl:=p.len V
 have h3:=h S b ds Z hd
 subst e ho
 refine⟨a,_,?_,V,h3⟩
 have e1:p.sz+off-a.length=off:=by omega
 have e2:p.sz+off+u.sz-a.length=off+u.sz:=by omega
 rw [List.take_append,List.drop_append,rt (by omega),rp (by omega),e1,e2]
 simp
variable{x' :γ}
def uM{α' β' :Type}{p:Rp α}{p' :Rp α'}{f:β->α}{f' :β' ->α'}{x:β}{x' :β'}{y:γ}{z:α'}(h:rj p p' off u (f x) y z)(e:f' x' =z):rj (kp p f) (kp p' f') off u x y x' :=fun S cs ds V Z=>by
 show p'.rc S _ (f' x')
 rw [e]
 exact h S cs ds V Z
section
variable{ty:TypeId}
def iR{x:α}{y:β}{p v:Operand}(ti:TI E.P U sz bytes agg z)(hsz:q.sz=sz)(hset:rj r r' off q x y x')(hoff:Nat.ble (off+q.sz) r.sz=true)(hp:bf E.N G p (tV (an b off)))(hv:bf E.N G v (H q y))(k:RG E ops ah rest (bx r' T b x' ::O) G):RG E ops ah (⟨none,.store U p v,ty,pos,after,none⟩::rest) (bx r T b x::O) G:= .of rfl fun a w S st=>by
 have V:a.eval p=an b off:=hp S a st.facts
 obtain⟨ds,Z,h3⟩:=hv S a st.facts
 obtain⟨⟨hno,cur,h5,h6⟩,_⟩:=st.own.1
 have hl:=r.len h6
 have hoff' :=ul hoff
 obtain⟨w',hr,e1,e2,e3,e4,e5,e6⟩:=jT ti hsz h3 h5 (off:=off) (by simp at hl;omega)
 have hrun:(execOp a.eval ⟨none,.store U p v,ty,pos,after,none⟩).run E.P w= .ok .skip w' :=by
  simp [execOp,V,Z,Instr.storeAt,an,Instr.sureAddr,hr]
 refine⟨fun c h=>(by cases h),?_⟩
 rw [hrun]
 obtain⟨g1,g2,g3⟩:=ne (O:=O) st.sat (bx r T b x) (bx r' T b x') st.own (fun _=>vl) (fun _=>vl) ⟨e1,e2,e3,e4.1,e4.2⟩ e6 ⟨hno,_,e5,by simpa using hset S _ _ h6 h3⟩ hno
 exact k _ _ S ⟨st.ext.step g1 (fun c hc=>st.own.1.2 c hc),g2,g3,st.facts⟩
def St.cvB{x:α}(h: ∀w S cs,dI E.base E.B w S O->r.rc S cs x->r'.rc S cs x')(st:St E (bx r T b x::O) G a w S):St E (bx r' T b x' ::O) G a w S:=
 st.own_map fun⟨⟨⟨V,c,Z,h3⟩,h4⟩,h5,h6⟩=>⟨⟨⟨V,c,Z,h _ _ _ h6 h3⟩,h4⟩,h5,h6⟩
def Oq{x:α}(h: ∀w S cs,dI E.base E.B w S O->r.rc S cs x->r'.rc S cs x')(k:RG E ops ah rest (bx r' T b x' ::O) G):RG E ops ah rest (bx r T b x::O) G:=fun a w S st=>k a w S (st.cvB h)
end

section
variable{b:Frame}{k:List Item}{cs:List Frame}{F:Fence}
def ra:step P (lone (b.atR a (.code (.scope c)::k)) cs w)= .next (lone (b.atR a (.code c:: .inScope c::k)) cs w):=
 step_lone_go (by simp [stepG,stepG.exec,Frame.atR])
def H2:step P (lone (b.atR a (.inScope c::k)) cs w)= .next (lone (b.atR a k) cs w):=
 step_lone_go (by simp [stepG,stepG.exec,Frame.atR])
def MI(h:c.wpIn F n P (Exit.noGoto ah) a w):(Code.scope c).wpIn F n P ah a w:=by
 intro b k cs hro Y hr
 have h0:(lone (b.atR a (.code (.scope c)::k)) cs w).fenced P F:=fenced_calm Y hr rfl
 obtain⟨e,a₁,w₁,hq,harr⟩:=h b (.inScope c::k) cs hro Y hr
 cases e with
 |normal=>exact⟨.normal,a₁,w₁,hq,.head h0 ra (StepsIn.trans harr (.one (fenced_calm Y hr rfl) H2))⟩
 |exit id=>
  have A:exitTo id (.inScope c::k)=exitTo id k:=by simp [exitTo]
  exact⟨.exit id,a₁,w₁,hq,fun k' hk=> .head h0 ra (harr.1 k' (by rw [A];exact hk)),
   fun hr' hk=>let⟨k₁,V,Z⟩:=harr.2 hr' (by rw [A];exact hk);⟨k₁,V,.head h0 ra Z⟩⟩
 |goto l=>exact hq.elim
 |ret=>exact⟨_,a₁,w₁,hq,.of_steps (.one h0 ra) harr⟩
 |panic ch=>exact⟨_,a₁,w₁,hq,.of_steps (.one h0 ra) harr⟩
 |outgrown=>exact⟨_,a₁,w₁,hq,.of_steps (.one h0 ra) harr⟩
end
section
def My(h:CG E (Exit.noGoto ah) c O G):CG E ah (.scope c) O G:=fun a w S st=>MI (h a w S st)
def Mz{l:Nat}(h:AT E ah .normal O G):CG E ah (.label l) O G:=fun a w S st=>wpIn_label (h a w S st)
def Ew(h:AT E ah .ret O G):AT E (Exit.noGoto ah) .ret O G:=h
end

def JY [Inhabited α](h:i<m):jn (qr r m) (i*r.sz) r (fun x=>(x[i]?).getD default):=fun S cs x ⟨V,Z⟩=>by
 have hi:x[i]? =some ((x[i]?).getD default):=by rw [lP (by omega)];rfl
 exact CO Z hi
def Wt [DecidableEq α] [Inhabited α]{t e:Nat}(M:P.underlying t=some (.array m e))(ti:TI P e sz bytes agg z)(hsz:r.sz=sz)(hag:r.agg=agg)(he:lq P e r n):lq P t (qr r m) (n+1):=fun S cs ds x y aE w A hy=>by
 obtain⟨i,zv,hi,hs,_⟩:=ti.get
 have hcell:P.cellsOf e=r.sz:=by unfold Program.cellsOf;rw [hi];simp [hs,hsz]
 have e1:(qr r m).val cs= .agg cs.toArray:=rfl
 have e2:(qr r m).val ds= .agg ds.toArray:=rfl
 rw [e1,e2,show aE+(n+1)=(aE+n)+1 from rfl,run_equalIn_array w (aE+n) cs.toArray ds.toArray M hi,List.range_eq_range',hcell]
 have key: ∀k j,j+k=m->(Op.eqItems (aE+n) e r.sz cs.toArray ds.toArray (List.range' j k)).run P w= .ok (decide (x.drop j=y.drop j)) w:=by
  intro k
  induction k with
  |zero=>
   intro j hj
   rw [rp (by have:=A.1;omega),rp (by have:=hy.1;omega)]
   rfl
  |succ k ih=>
   intro j hj
   have hjx:j<x.length:=by have:=A.1;omega
   have hjy:j<y.length:=by have:=hy.1;omega
   have V:=uQ ti hsz hag (JY (r:=r) (m:=m) (i:=j) (by omega)) A w
   have Z:=uQ ti hsz hag (JY (r:=r) (m:=m) (i:=j) (by omega)) hy w
   have h3:=he S _ _ _ _ aE w (JY (r:=r) (m:=m) (i:=j) (by omega) S cs x A) (JY (r:=r) (m:=m) (i:=j) (by omega) S ds y hy)
   rw [List.range'_succ]
   unfold Op.eqItems
   simp only [sq,V,Z,h3,tJ]
   have ex:x.drop j=(x[j]?).getD default::x.drop (j+1):=by rw [lP hjx];exact sG hjx
   have ey:y.drop j=(y[j]?).getD default::y.drop (j+1):=by rw [lP hjy];exact sG hjy
   rw [ex,ey]
   by_cases hq:(x[j]?).getD default=(y[j]?).getD default
   ·simp only [hq,decide_true,rn,lu,jQ]
    rw [ih (j+1) (by omega)]
    congr 1
    simp
   ·simp [hq]
 have:=key m 0 (by omega)
 simpa using this
section
variable{ty:TypeId}
def sO{xs:List Operand}{sz' bytes' :Nat}{agg' :Bool}{z' :List Value}(M:E.P.underlying t=some (.array m T))(ti:TI E.P T sz bytes agg z)(hsz:r.sz=sz)(tj:TI E.P t sz' bytes' agg' z')(hz:z'.length=m*r.sz)(hm:m=ys.length)(A:kL E.N G xs (ys.map (H r))):cE E O G ⟨dst,.build t (Bd 0 xs).toArray,ty,pos,after,g⟩ (H (qr r m) ys):=
 .of_pure fun a w S _ _ hF=>by
  obtain⟨zv,hzr,hzc⟩:=tj.zero w
  obtain⟨cs,hc,hfill⟩:=Hf ys (xs.map a.eval) 0 [] z' (A.tys hF) (by simp) (by rw [hz,hm])
  subst hsz
  have hparts:((Bd 0 xs).toArray.map fun(i,x)=>(i,a.eval x)).toList=ES 0 (xs.map a.eval):=by simpa using Ej a.eval 0 xs
  rw [qg,qg]at hfill
  refine⟨.agg cs.toArray,?_,cs,rfl,hm.symm,hc⟩
  simp only [execOp,Instr.build,sq,hzr,tJ,ka M,ti.sizeOf,hzc,hparts,hfill]
  simp
end
end Go.Proofs.YthbdkceckjihgaaGreatDoor

