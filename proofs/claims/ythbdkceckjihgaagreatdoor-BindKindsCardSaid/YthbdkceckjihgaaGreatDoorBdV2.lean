/- cm of this claim: W12, W13, W14, W16, W17, W18, W19, W20, W22, W23, W24, W25, W26, W28, W30, W31, W32. -/
import Derived.Test.YthbdkceckjihgaaGreatDoorBdV1
import Derived.RangeFuncRecord
import Derived.RangeFuncLeaves
import Derived.Laws.StructEq
import Derived.Lib.ConvBytes
import Derived.Lib.AppendZeros
import Derived.Laws.MakeOwn
import Derived.MapKept
import Derived.Scope
import Derived.ChangeKeysEq
set_option linter.all false
namespace Go.Proofs.YthbdkceckjihgaaGreatDoor
open Go

variable{B:Nat->Prop}{O:List OE}{S S' :SH}{b base:Nat}{e:Exit}{f:FuncId}{k:IntKind}{w w' :World}
def p9(h:cH base B w S O)(k:je rp w S w' S'){e:OE}(he:e.p w' S')(hn: ∀b,e.fp b->w.heap.size<=b)(H:base<=w.heap.size:=by first|assumption|exact St.base_le (by assumption)):cH base B w' S' (e::O):=
 ⟨⟨he,fun b hb' => .inl (lp H (hn b hb'))⟩,fun f hf b hb' hfb=>by
  have:=f.here (cH.mem h f hf).1 b hfb
  have:=hn b hb'
  omega,h.ext0 k⟩
def jG(P:Program)(f:FuncId)(ts:List Ty)(mm:Bool){α:Type}(r:Rp α)(T:TypeId)(xs:List α):Prop:=
 ∀w S vs,kb w S->wl S ts vs->Calls P f vs.toArray w fun e w' => ∃l cap S',e= .returned (Y l cap xs.length)/\je rp w S w' S' /\kb w' S' /\(jL mm r T l cap xs).holds w.heap.size rp w' S'
variable{T:TypeId}{cap:Nat}{α:Type}{l:Option Nat}{mm:Bool}{r:Rp α}{xs:List α}
def Jh(h:(jL mm r T l cap xs).holds w.heap.size rp w' S')(he:je rp w S w' S')(hs:kb w' S'):
  ∃S'',je rp w S w' S'' /\kb w' S'' /\(K (eF r) xs).p S'' (Y l cap xs.length):=by
 have st:St ⟨default,⟨0,[]⟩,rp,w,S,none⟩ [jL mm r T l cap xs] [] ⟨#[],[]⟩ w' S' :=⟨he,hs,⟨h,fun _ hf=>(by cases hf),trivial⟩,⟨rfl,rfl,fun _ _ h=>(by simp [look]at h)⟩⟩
 obtain⟨S'',A,V⟩:=st.settle
 exact⟨S'',A.ext,A.sat,V⟩
variable{P:Program}{ts:List Ty}
def jG.spec(h:jG P f ts mm r T xs):de P f ts (K (eF r) xs):=fun w S vs hs hv=>
 (h w S vs hs hv).mono fun e w' ⟨l,cap,S',he,A,V,h3⟩=>by
  obtain⟨S'',h4,h5,h6⟩:=Jh h3 A V
  exact⟨_,S'',he,h4,h5,h6⟩
def VN(E:En)(mm:Bool){α:Type}(r:Rp α)(T:TypeId)(xs:List α):Ending->World->Prop:=fun e w' => ∃l cap S',e= .returned (Y l cap xs.length)/\je E.B E.w0 E.S0 w' S' /\kb w' S' /\(jL mm r T l cap xs).holds E.w0.heap.size E.B w' S'
variable{N:Nat}{S0:SH}{c:Code}{fn:Func}{n:Nat}{w0:World}
def jG.of(hf:P.funcs[f]? =some fn)(H:fn.body=some c)(hN:fn.ntmps=N)(hn:Nat.ble ts.length N=true)(h: ∀w0 S0,CG ⟨P,⟨N,[]⟩,rp,w0,S0,none⟩ (bodyPost P fn (VN ⟨P,⟨N,[]⟩,rp,w0,S0,none⟩ mm r T xs)) c [] (wB 0 ts)):jG P f ts mm r T xs:=by
 subst hN
 intro w S vs hs hv
 exact tM.1 (callsIn_of_wp (F:=fw none) (n:=0) hf H trivial (h w S _ w S ⟨je.refl _ _ _,hs,trivial,xr hv _ (pI hn)⟩))
variable{E:En}{G:kP}{aF:Exit->Act->World->Prop}{a:Act}{after:Array Edge}{agg:Bool}{ats:Array TypeId}{bytes d:Nat}{ops:Array Oper}{pos:String}{γ:Type}{rest:List Oper}{sz:Nat}{t:TypeId}{u:Rp γ}{ys:List α}{z:List Value}
section
def ni{k:Nat}(hr:fn.results= #[.tmp k])(hk:look G k=some (tV (Y l cap n)))(hn:n=xs.length:=by rfl):
  AT ⟨P,⟨N,[]⟩,B,w0,S0,none⟩ (bodyPost P fn (VN ⟨P,⟨N,[]⟩,B,w0,S0,none⟩ mm r T xs)) .ret (jL mm r T l cap xs::O) G:=fun a w S st=>by
 subst hn
 have hv:a.tmps.getD k undef=Y l cap xs.length:=st.facts.at_ k _ hk
 exact⟨st.facts.defers,_,pN P fn k hr _ _,l,cap,S,by rw [hv],st.ext,st.sat,st.own.1⟩
section
variable{ty:TypeId}
def NA{xs:List Operand}{u:Nat->Option Nat->Ty}(hc:aj E.P f=true)(hs:jG E.P f ts mm r T ys)(D:iA E.N G xs ts)(hd:Nat.blt d E.N.n=true)(hu: ∀l cap w0 S,(jL mm r T l cap ys).p w0 S->(u cap l).p S (Y l cap ys.length))(k: ∀l cap,RG E ops aF rest (jL mm r T l cap ys::O) ((d,u cap l)::G)):
  RG E ops aF (⟨some d,.call ⟨.value (.func f),xs.toArray,ats⟩,ty,pos,after,none⟩::rest) O G:= .of rfl fun a w S st=>by
 have hr:(execOp a.eval ⟨some d,.call ⟨.value (.func f),xs.toArray,ats⟩,ty,pos,after,none⟩).run E.P w= .ok (.enter f (xs.map a.eval).toArray) w:=by
  simp [execOp,resolve,Act.eval,Deferred.ofValue,invoke,hZ hc]
 refine⟨fun c h=>(by cases h),?_⟩
 rw [hr]
 refine(hs w S _ st.sat (D.tys st.facts)).mono fun e w' ⟨l,cap,S',he,A,V,h3⟩=>⟨_,he,?_⟩;refine k l cap _ _ S' ⟨st.ext.step0 A,V,p9 st.own A h3.1 (fun b H=>(h3.2 b H).resolve_right id) st.base_le,(st.facts.mono A.keep).put hd (hu l cap w' S' h3.1)⟩
def PQ{xs:List Operand}(hc:aj E.P f=true)(hs:jG E.P f ts false r T ys)(D:iA E.N G xs ts)(hd:Nat.blt d E.N.n=true)(k: ∀l cap,RG E ops aF rest (fq r T l cap ys::O) ((d,tV (Y l cap ys.length))::G)):
  RG E ops aF (⟨some d,.call ⟨.value (.func f),xs.toArray,ats⟩,ty,pos,after,none⟩::rest) O G:=NA (u:=fun cap l=>tV (Y l cap ys.length)) hc hs D hd (fun _ _ _ _ _=>rfl) k
def iz{xs:List Operand}{parts:List (Nat×Operand)}(M:E.P.underlying t=some (.slice T))(ti:TI E.P T sz bytes agg z)(hsz:r.sz=sz)(h0:Nat.blt 0 sz=true)(hp:parts=wD 0 xs)(hn:n=ys.length)(H:Nat.ble (n*sz) 16777216=true)(D:iA E.N G xs (ys.map (K r)))(hd:Nat.blt d E.N.n=true)(k: ∀l cap,RG E ops aF rest (fq r T l cap ys::O) ((d,tV (Y l cap ys.length))::G)):
  RG E ops aF (⟨some d,.buildSlice t n parts.toArray,ty,pos,after,none⟩::rest) O G:= .of rfl fun a w S st=>by
 obtain⟨cs,hc,hr⟩:=uL M ti hsz hn H (D.tys st.facts) w
 subst hsz
 subst hp
 have hb' :=pI H
 have h0' :0<r.sz:=by simpa [ur] using h0
 have hnle:n<=n*r.sz:=Nat.le_mul_of_pos_right n h0'
 have hcl:=kl hc
 obtain⟨he,hs',hno⟩:=jq (w:=w) (.cells cs.toArray T (0,0)) st.sat
 have hrun:(execOp a.eval ⟨some d,.buildSlice t n (wD 0 xs).toArray,ty,pos,after,none⟩).run E.P w= .ok (.value (.slice (some ⟨w.heap.size,0,none⟩) n n)) (w.alloc (.cells cs.toArray T (0,0))):=by
  simp only [execOp,ow,hr,pl,Ax]
 refine⟨fun c h=>(by cases h),?_⟩
 rw [hrun]
 refine k (some w.heap.size) n _ _ S ⟨st.ext.step0 he,hs',p9 st.own he ⟨cs,⟨cs.toArray,wn w _,by omega,by simp only [maxLen];omega,by simp [hcl,hn],by simp [<-hcl]⟩,hc,fun b H=>by rw [<-nO H];exact hno⟩ (fun b H=>Aw (nO H)) st.base_le,st.facts.put hd ?_⟩
 ·show _=Y _ _ _
  rw [<-hn];rfl
end
end

def ak(b off:Nat):Value:= .pointer (some ⟨b,off,none⟩)
def bx{α:Type}(r:Rp α)(T:TypeId)(b:Nat)(x:α):OE where
 fp:=fun k=>k=b
 p:=fun w S=>S b=none/\ ∃c,w.heap[b]? =some (.cells c T (0,0))/\r.rc S c.toList x
 here:=by
  intro w S h k hk
  subst hk
  obtain⟨A,c,V,_⟩:=h
  exact(wO.1 V).1
 kept:=by
  intro C w w' S S' h k hC
  obtain⟨A,c,V,h3⟩:=h
  have hlt:=(wO.1 V).1
  exact⟨by rw [k.old b hlt (hC b rfl)];exact A,c,by rw [k.heap b hlt (hC b rfl)];exact V,r.mono k.keep h3⟩
def rV:Rp Value where
 sz:=1
 agg:=false
 rc:=fun _ cs v=>cs=[v]/\v.oneCell' =true
 mono:=fun _ h=>h
 len:=fun h=>by rw [h.1];rfl
 one:=fun h c hc=>by rw [h.1]at hc;simp at hc;subst hc;exact h.2
 sc:=fun _=>rfl
def ye{u:Value}{v:Value}:(K rV u).p S v↔v=u/\u.oneCell' =true:=by
 constructor
 ·rintro⟨cs,rfl,A,V⟩;subst A;exact⟨rfl,V⟩
 ·rintro⟨rfl,h⟩;exact⟨[v],rfl,rfl,h⟩
def dW{α β:Type}(r:Rp α)(off:Nat)(q:Rp β)(set:α->β->α):Prop:= ∀S cs x ds y,r.rc S cs x->q.rc S ds y->r.rc S (cs.take off++ds++cs.drop (off+q.sz)) (set x y)
variable{U:TypeId}{dst:Option Tmp}{g:Option (Nat×Bool)}{β:Type}{get:α->β}{i:Nat}{o:Oper}{off:Nat}{q:Rp β}{set:α->β->α}{x:Operand}{y:α}
section
def St.settleB{k:Nat}{x:α}(h:St E (bx r T b x::O) G a w S)(hk:look G k=some (tV (ak b 0))): ∃S',St E O ((k,aU r x)::G) a w S' :=by
 obtain⟨⟨hn,cur,h3,h4⟩,_⟩:=h.own.1
 obtain⟨h8,hle,_,_⟩:=w9 h rfl h3 (sE _) hn
 have hv:a.tmps.getD k undef=ak b 0:=h.facts.at_ k _ hk
 refine⟨_,h8.cons ⟨b,0,cur,T,(0,0),hv,by simp [SH.set],?_⟩⟩
 have hl:cur.size=r.sz:=by have:=r.len h4;simpa using this
 have:=r.mono hle h4
 rw [sq,pJ (by simp [hl])];exact this
def aS{x:α}(k:Nat)(hk:look G k=some (tV (ak b 0)))(h:RG E ops aF rest O ((k,aU r x)::G)):RG E ops aF rest (bx r T b x::O) G:=
 fun a w _ st=>let⟨S',st'⟩:=st.settleB hk;h a w S' st'
def dm{x:α}(k:Nat)(hk:look G k=some (tV (ak b 0)))(h:AT E aF e O ((k,aU r x)::G)):AT E aF e (bx r T b x::O) G:=
 fun a w _ st=>let⟨S',st'⟩:=st.settleB hk;h a w S' st'
section
variable{ty:TypeId}
def aV{x:α}(ti:TI E.P T sz bytes agg z)(D: ∀S,r.rc S z x)(hd:Nat.blt d E.N.n=true)(k: ∀b,RG E ops aF rest (bx r T b x::O) ((d,tV (ak b 0))::G)):RG E ops aF (⟨some d,.alloc T,ty,pos,after,none⟩::rest) O G:= .of rfl fun a w S st=>by
 obtain⟨zv,hzr,hzc⟩:=ti.zero w
 obtain⟨he,hs',hno⟩:=jq (w:=w) (.cells z.toArray T (0,0)) st.sat
 have hrun:(execOp a.eval ⟨some d,.alloc T,ty,pos,after,none⟩).run E.P w= .ok (.value (ak w.heap.size 0)) (w.alloc (.cells z.toArray T (0,0))):=by
  simp [execOp,Instr.alloc,hzr,newVar,newRow,hzc,ak]
 refine⟨fun c h=>(by cases h),?_⟩
 rw [hrun]
 exact k w.heap.size _ _ S ⟨st.ext.step0 he,hs',p9 st.own he ⟨hno,z.toArray,wn w _,by simpa using D S⟩ (fun b H=>Aw H.symm) st.base_le,st.facts.put hd rfl⟩
def BJ{v:α}(D:aC E.N G x (K r v))(hd:Nat.blt d E.N.n=true)(k: ∀b,RG E ops aF rest (bx r T b v::O) ((d,tV (ak b 0))::G)):RG E ops aF (⟨some d,.box T x,ty,pos,after,none⟩::rest) O G:= .of rfl fun a w S st=>by
 obtain⟨cs,hv,hc⟩:=D S a st.facts
 obtain⟨he,hs',hno⟩:=jq (w:=w) (.cells cs.toArray T (0,0)) st.sat
 have hrun:(execOp a.eval ⟨some d,.box T x,ty,pos,after,none⟩).run E.P w= .ok (.value (ak w.heap.size 0)) (w.alloc (.cells cs.toArray T (0,0))):=by
  simp [execOp,Instr.box,newVar,newRow,hv,sA hc,ak]
 refine⟨fun c h=>(by cases h),?_⟩
 rw [hrun]
 exact k w.heap.size _ _ S ⟨st.ext.step0 he,hs',p9 st.own he ⟨hno,cs.toArray,wn w _,by simpa using hc⟩ (fun b H=>Aw H.symm) st.base_le,st.facts.put hd rfl⟩
def kw(hs:kb w S)(f f' :OE)(h:cH base B w S (f::O))(hf: ∀k,f.fp k↔k=b)(hf' : ∀k,f'.fp k↔k=b)(hg:w'.os=w.os/\w'.tape=w.tape/\w'.output=w.output/\w'.heap.size=w.heap.size/\w.drawn<=w'.drawn)(ho: ∀k,k≠b->w'.heap[k]? =w.heap[k]?)(hp:f'.p w' S)(hno:S b=none):je (fun k=>k=b) w S w' S/\kb w' S/\cH base B w' S (f' ::O):=by
 have hext:je (fun k=>k=b) w S w' S:=⟨hg.1,hg.2.1,hg.2.2.1,hg.2.2.2.2,by omega,fun k _ hk=>ho k hk,SH.le_refl _,fun _ _ _=>rfl⟩
 refine⟨hext,hs.same fun k o hk=>?_,⟨hp,fun k hk=>h.1.2 k ((hf k).2 ((hf' k).1 hk))⟩,fun g hgm k hk=>h.2.1 g hgm k ((hf k).2 ((hf' k).1 hk)),h.2.2.ext hext fun g hgm k hk hkb=>h.2.1 g hgm k ((hf k).2 hkb) hk⟩
 have hne:k≠b:=fun e=>by subst e;rw [hno]at hk;cases hk
 exact ho k hne
def gK{q:Rp α}(ti:TI P U sz bytes agg z)(hsz:q.sz=sz){ds:List Value}(hy:q.rc S ds y){cur:Array Value}(hg:w.heap[b]? =some (.cells cur T (0,0)))(hfit:off+q.sz<=cur.size):
  ∃w',(storeVar U ⟨b,off,none⟩ (q.val ds)).run P w= .ok () w' /\w'.os=w.os/\w'.tape=w.tape/\w'.output=w.output/\(w'.heap.size=w.heap.size/\w.drawn<=w'.drawn)/\w'.heap[b]? =some (.cells (cur.toList.take off++ds++cur.toList.drop (off+q.sz)).toArray T (0,0))/\ ∀k,k≠b->w'.heap[k]? =w.heap[k]? :=by
 have hl:=q.len hy
 have hst:=run_storeCells_at P b off T ds 0 cur w hg (by omega) (q.one hy)
 simp only [BS]at hst
 refine⟨w.setRow b (cur.toList.take off++ds++cur.toList.drop (off+ds.length)).toArray,?_,rfl,rfl,rfl,⟨?_,eX _⟩,?_,fun k hk=>setRow_other w b k _ hk⟩
 ·generalize (cur.toList.take off++ds++cur.toList.drop (off+ds.length)).toArray=X at hst ⊢
  simp only [storeVar,ow,ti.sizeOf,pl,sA hy,BV,hl,hsz]
  simp only [ne_eq,not_true_eq_false,iB]
  simpa using hst
 ·simp [World.setRow]
 ·rw [setRow_heap w b cur _ T _ hg,<-hl]
def lD{x:α}{y:β}{p v:Operand}(ti:TI E.P U sz bytes agg z)(hsz:q.sz=sz)(hset:dW r off q set)(hoff:Nat.ble (off+q.sz) r.sz=true)(hp:aC E.N G p (tV (ak b off)))(hv:aC E.N G v (K q y))(k:RG E ops aF rest (bx r T b (set x y)::O) G):RG E ops aF (⟨none,.store U p v,ty,pos,after,none⟩::rest) (bx r T b x::O) G:= .of rfl fun a w S st=>by
 have A:a.eval p=ak b off:=hp S a st.facts
 obtain⟨ds,V,h3⟩:=hv S a st.facts
 obtain⟨⟨hno,cur,h5,h6⟩,_⟩:=st.own.1
 have hl:=r.len h6
 have hoff' :=pI hoff
 obtain⟨w',hr,e1,e2,e3,e4,e5,e6⟩:=gK ti hsz h3 h5 (off:=off) (by simp at hl;omega)
 have hrun:(execOp a.eval ⟨none,.store U p v,ty,pos,after,none⟩).run E.P w= .ok .skip w' :=by
  simp [execOp,A,V,Instr.storeAt,ak,Instr.sureAddr,hr]
 refine⟨fun c h=>(by cases h),?_⟩
 rw [hrun]
 obtain⟨g1,g2,g3⟩:=kw (O:=O) st.sat (bx r T b x) (bx r T b (set x y)) st.own (fun _=>qu) (fun _=>qu) ⟨e1,e2,e3,e4.1,e4.2⟩ e6 ⟨hno,_,e5,by simpa using hset S _ _ _ _ h6 h3⟩ hno
 exact k _ _ S ⟨st.ext.step g1 (fun c hc=>st.own.1.2 c hc),g2,g3,st.facts⟩
def al:dW r 0 r (fun _ y=>y):=fun S cs x ds y A V=>by
 have hl:=r.len A
 simpa [<-hl] using V
end
section
variable{ty:TypeId}
def D6{o:Nat}{p:Operand}(hf:aT E.P T i=some (off,sz))(h0:Nat.beq sz 0=false)(hp:aC E.N G p (tV (ak b o))):bM E O G ⟨dst,.fieldAddr T p i,ty,pos,after,g⟩ (tV (ak b (o+off))):=
 .of_pure fun a w S _ _ hF=>by
  have A:a.eval p=ak b o:=hp S a hF
  obtain⟨fs,f,e1,e2,e3,e4⟩:=zK hf
  have h0' :sz≠0:=fun e=>by subst e;simp at h0
  refine⟨ak b (o+off),?_,rfl⟩
  simp [execOp,A,ak,Instr.fieldAt,gP e1,e2,Instr.sureAddr,fieldPlace,e4,h0',e3,gE]
def bz{x:α}{p:Operand}(ti:TI E.P U sz bytes agg z)(hsz:q.sz=sz)(hag:q.agg=agg)(hget:g9 r off q get)(hm:bx r T b x∈O)(hp:aC E.N G p (tV (ak b off))):
  bM E O G ⟨dst,.load U p,ty,pos,after,g⟩ (K q (get x)):=
 .of_pure fun a w S _ ho hf=>by
  have A:a.eval p=ak b off:=hp S a hf
  obtain⟨⟨_,cur,h5,h6⟩,_⟩:=ho.mem _ hm
  have h7:=hget S _ _ h6
  refine⟨_,?_,_,rfl,h7⟩
  simp [execOp,A,ak,Instr.loadAt,Instr.sureAddr,jw ti h5 hsz hag h7]
def cr:g9 r 0 r (fun x=>x):=fun S cs x h=>by
 have hl:=r.len h
 simpa [<-hl] using h
end
end

def cc{p:Rp α}:dW (bC p q) 0 p (fun x y=>(y,x.2)):=fun S cs x ds y h k=>by
 obtain⟨a,b,e,A,V⟩:=h
 have hl:=p.len A
 refine⟨ds,b,?_,k,V⟩
 rw [e,<-hl];simp
variable{s:Rp γ}
def an{p:Rp α}{off' :Nat}{u:β->γ->β}(h:dW q off s u)(ho:off' =p.sz+off):dW (bC p q) off' s (fun x y=>(x.1,u x.2 y)):=fun S cs x ds y D hy=>by
 obtain⟨a,b,e,A,V⟩:=D
 have hl:=p.len A
 refine⟨a,b.take off++ds++b.drop (off+s.sz),?_,A,h S b x.2 ds y V hy⟩
 rw [e,ho,<-hl,List.take_length_add_append,show a.length+off+s.sz=a.length+(off+s.sz)from by omega,List.drop_length_add_append]
 simp
def bg{p:Rp α}{q:Rp γ}{u:α->γ->α}{f:β->α}{set:β->γ->β}(h:dW p off q u)(hf: ∀x y,f (set x y)=u (f x) y):dW (iT p f) off q set:=fun S cs x ds y D hy=>by
 show p.rc S _ (f (set x y))
 rw [hf]
 exact h S cs (f x) ds y D hy
def fF(P:Program)(T:TypeId):Option (List (Nat×Nat)):=
 match P.underlying T with
 |some (.struct fs)=>fs.toList.mapM fun f=>(P.info? f.type).map fun q=>(f.offset,q.size)
 |_=>none
def Cr{P:Program}: ∀(fs:List Field) (ps:List (Nat×Nat)) (w:World),fs.mapM (fun f=>(P.info? f.type).map fun q=>(f.offset,q.size))=some ps->
  (fs.mapM (fun f=>do pure (f.offset,<-sizeOf f.type):Field->Sem (Nat×Nat))).run P w= .ok ps w
 |[],ps,w,h=>by
  simp at h;subst h
  simp
 |f::fs,ps,w,h=>by
  simp only [List.mapM_cons]at h ⊢
  cases hq:P.info? f.type with
  |none=>simp [hq]at h
  |some q=>
   cases hr:fs.mapM (fun f=>(P.info? f.type).map fun q=>(f.offset,q.size))with
   |none=>simp [hq,hr]at h
   |some qs=>
    simp [hq,hr]at h
    subst h
    have ih:=Cr fs qs w hr
    simp [sizeOf,typeInfo,hq]at ih ⊢
    simp [ih]
section
variable{ty:TypeId}
def BP(E:En)(G:kP){α:Type}(r:Rp α)(ps:List (Nat×Nat)):α->List (Nat×Operand)->α->Prop
 |x,[],y=>x=y
 |x,(i,o)::rest,y=> ∃(β:Type) (q:Rp β) (set:α->β->α) (off:Nat) (v:β),ps[i]? =some (off,q.sz)/\dW r off q set/\Nat.ble (off+q.sz) r.sz=true/\aC E.N G o (K q v)/\BP E G r ps (set x v) rest y
def C4{α:Type}{r:Rp α}{ps:List (Nat×Nat)}{S:SH}{a:Act}(hF:cm E.N S a G): ∀(parts:List (Nat×Operand)) (x y:α) (cs:List Value),BP E G r ps x parts y->r.rc S cs x->
  ∃ds,r.rc S ds y/\Instr.fill (ps.toArray[·]?) cs.toArray (parts.map fun p=>(p.1,a.eval p.2))=some ds.toArray
 |[],x,y,cs,h,D=>by
  have e:x=y:=h
  subst e
  exact⟨cs,D,rfl⟩
 |(i,o)::rest,x,y,cs,⟨β,q,set,off,v,A,V,h3,h4,h5⟩,D=>by
  obtain⟨c,hv,hc⟩:=h4 S a hF
  have hl:=q.len hc
  have hlr:=r.len D
  have h3' :=pI h3
  have hcells:(a.eval o).cells=c.toArray:=by rw [hv];exact sA hc
  obtain⟨ds,h6,h7⟩:=C4 hF rest _ y _ h5 (V S cs x c v D hc)
  refine⟨ds,h6,?_⟩
  have hps:ps.toArray[i]? =some (off,q.sz):=by simpa using A
  have hs:(a.eval o).cells.size=q.sz:=by rw [hcells];simpa using hl
  have h8:=yf (a.eval o) off (cs.take off) ((cs.drop off).take q.sz) (cs.drop (off+q.sz)) (by rw [hs];simp;omega) (by simp;omega)
  have e1:cs.take off++(cs.drop off).take q.sz++cs.drop (off+q.sz)=cs:=by
   rw [gQ,<-sR,rX,rX]
  rw [e1]at h8
  simp only [sn,Instr.fill,hps]
  rw [bG (by simp [hs,hlr];omega),h8,hcells]
  simpa using h7
def co{x:α}{parts:List (Nat×Operand)}{ps:List (Nat×Nat)}(ti:TI E.P T sz bytes agg z)(hp:fF E.P T=some ps)(hz: ∀S,r.rc S z x)(H:BP E G r ps x parts y)(ha:r.agg=true:=by rfl):
  bM E O G ⟨dst,.build T parts.toArray,ty,pos,after,g⟩ (K r y):=
 .of_pure fun a w S _ _ hF=>by
  obtain⟨zv,hzr,hzc⟩:=ti.zero w
  obtain⟨ds,A,V⟩:=C4 hF parts x y z H (hz S)
  unfold fF at hp
  split at hp
  ·rename_i fs hu
   have hpl:=Cr fs.toList ps w hp
   have hpl2:(fs.mapM (fun f=>do pure (f.offset,<-sizeOf f.type):Field->Sem (Nat×Nat))).run E.P w= .ok ps.toArray w:=by
    have hfs:fs=fs.toList.toArray:=by simp
    generalize fs.toList=l at hfs hpl
    subst hfs
    rw [List.mapM_toArray,Sem.run_map,hpl]
    rfl
   refine⟨.agg ds.toArray,?_,ds,(pX ha ds).symm,A⟩
   simp only [execOp,Instr.build,ow,hzr,pl,gP hu,hpl2,hzc]
   have hm:(parts.toArray.map fun(i,x)=>(i,a.eval x)).toList=parts.map fun p=>(p.1,a.eval p.2):=by simp
   rw [hm,V]
   simp
  ·cases hp
end
section
def q9{k:Nat}{x:α}(hr:fn.results= #[.cell k T])(ti:TI P T sz bytes agg z)(hsz:r.sz=sz)(hag:r.agg=agg)(hk:look G k=some (aU r x)):
  AT ⟨P,⟨N,[]⟩,B,w0,S0,none⟩ (bodyPost P fn (JZ ⟨P,⟨N,[]⟩,B,w0,S0,none⟩ (K r x))) .ret O G:=fun a w S st=>by
 obtain⟨b,off,c,U,fr,A,V,h3⟩:=st.facts.at_ k _ hk
 obtain⟨c',h4,h5⟩:=st.sat.part V (r.len h3)
 rw [<-h5]at h3
 refine⟨st.facts.defers,r.val ((c'.toList.drop off).take r.sz),?_,_,S,rfl,st.ext,st.sat,_,rfl,h3⟩
 have hl:=jw ti h4 hsz hag h3
 have h1' :a.tmps[k]?.getD undef=Value.pointer (some ⟨b,off,none⟩):=by simpa [GN] using A
 simp [results,hr,h1',asAddr,hl]
end

def lM(L:List Oper):Nat->Nat->Nat->Bool
 |0,_,_=>false
 |n+1,i,j=>match L[i]? with
  |some o=>o.after.toList.any fun e=>Region.binds .any e&&(Nat.beq e.on j||lM L n e.on j)
  |none=>false
def tI(L:List Oper)(m:Nat):Bool:=(List.range m).all fun j=>lM L L.length m j
def wr(L:List Oper)(n k:Nat):Bool:=(List.range k).all fun m=>tI L (n+m)&&(match L[n+m]? with|some o=>d8 (n+m) o&&o.guard.isNone|none=>false)
variable{L:List Oper}{done:Array Bool}{hi j:Int}
def fx{L:List Oper}{done:Array Bool}(down: ∀j o,L[j]? =some o->done.getD j false=true-> ∀e∈o.after,Region.binds .any e=true->done.getD e.on false=true):
  ∀(n i j:Nat),(∀o,L[i]? =some o-> ∀e∈o.after,Region.binds .any e=true->done.getD e.on false=true)->lM L n i j=true->done.getD j false=true
 |0,_,_,_,h=>by cases h
 |n+1,i,j,hi,h=>by
  unfold lM at h
  cases ho:L[i]? with
  |none=>rw [ho]at h;cases h
  |some o=>
   rw [ho]at h
   obtain⟨e,he0,H⟩:=A4.1 h
   have he:e∈o.after:=by simpa using he0
   rw [gM,ze]at H
   have hd:=hi o ho e he H.1
   rcases H.2 with A|A
   ·rw [<-nk A];exact hd
   ·exact fx down n e.on j (fun p hp=>down e.on p hp hd) A
def DJ.stepT{l:List Oper}(h:DJ E O G l ts done a w S){t:Ty}{v:Value}(hi:l[i]? =some o)(hd:o.dst=some d)(hdN:d<E.N.n)(hs2: ∀j p,l[j]? =some p->done.getD j false=true->p.dst=some d->i=j)(hwait: ∀e∈o.after,Region.binds .any e=true->done.getD e.on false=true)(M:ts[i]? =some t)(hun:done.getD i true=false)(hext:je rp w S w' S')(hsat:kb w' S')(hv:t.p S' v):DJ E O G l ts (done.setIfInBounds i true) (a.put o.dst v) w' S' :=by
 have hda:d<a.tmps.size:=by rw [h.size];exact hdN
 have hlt:i<done.size:=by rw [h.dsz];exact(pG.1 hi).1
 have hset: ∀j,(done.setIfInBounds i true).getD j false=true->j=i\/done.getD j false=true:=fun j hj=>by
  by_cases hij:i=j
  ·exact .inl hij.symm
  ·rw [tX false hij]at hj;exact .inr hj
 have hseti:(done.setIfInBounds i true).getD i false=true:=by simp [hlt]
 have hun' :done.getD i false=false:=by simp [hlt]at hun ⊢;exact hun
 refine⟨h.ext.step0 hext,hsat,h.own.ext0 hext,?_,?_,by simp [h.dsz],fun j p hj hdone e he H=>?_,fun k u hk hno=>?_,fun j p d' u hj hdone hd' hu=>?_⟩
 ·rw [hd];simp [Act.put,h.size]
 ·rw [hd];exact h.defers
 ·rcases hset j hdone with rfl|hj'
  ·rw [hi]at hj
   have:o=p:=by simpa using hj
   subst this
   exact wa (hwait e he H)
  ·exact wa (h.down j p hj hj' e he H)
 ·have hne:d≠k:=fun e=>hno i o hi hseti (by rw [hd,e])
  rw [hd,rl hda,bG hne]
  exact u.mono hext.keep (h.old k u hk fun j p hj hdone=>hno j p hj (wa hdone))
 ·rw [hd,rl hda]
  rcases hset j hdone with rfl|hj'
  ·rw [hi]at hj
   have:o=p:=by simpa using hj
   subst this
   rw [hd]at hd'
   have:d=d' :=by simpa using hd'
   subst this
   rw [bK rfl]
   rw [M]at hu
   have:t=u:=by simpa using hu
   subst this
   exact hv
  ·have hne:d≠d' :=fun e=>by
    subst e
    have:=hs2 j p hj hj' hd'
    subst this
    rw [hj']at hun';cases hun'
   rw [bG hne]
   exact u.mono hext.keep (h.new j p d' u hj hj' hd' hu)
def mL(h:i<done.size):done.getD i true=done.getD i false:=by simp [h]
def rh(h:j5 done=0)(hi:i<done.size):done.getD i false=true:=by
 unfold j5 at h
 rw [List.countP_eq_zero]at h
 have V:done[i]∈done.toList:=by simp
 have:=h _ V
 rw [<-mL hi]
 simpa [hi] using this
variable{m:Nat}
def wQ{r:Option Nat}(hc: ∀m o,n<=m->L[m]? =some o->tI L m=true)(hedge: ∀m o,L[m]? =some o->d8 m o=true):
  ∀(rest:List Oper) (m:Nat) (done:Array Bool) (fuel:Nat) (a:Act) (w:World),n<=m->L.drop m=rest->done.size=L.length->(∀j,j<L.length->(done.getD j false=true↔j<m))->j5 done=fuel->
   wpListIn (fw r) 0 P L.toArray aF rest a w->wpAnyIn (fw r) 0 P .any L.toArray aF fuel done a w:=by
 intro rest
 induction rest with
 |nil=>
  intro m done fuel a w hnm hdrop hsz hdone hu h
  have hlen:L.length<=m:=GV.1 hdrop
  have hr:Region.ready .any L.toArray done=[]:=by
   cases hr:Region.ready .any L.toArray done with
   |nil=>rfl
   |cons i r=>
    have hm:i∈Region.ready .any L.toArray done:=by rw [hr];exact ln ..
    obtain⟨hun,o,ho,_⟩:=qv.1 hm
    have hi:i<L.length:=by simpa using (wO.1 ho).1
    have:=(hdone i hi).2 (by omega)
    rw [mL (by omega)]at hun
    rw [hun]at this;cases this
  cases fuel with
  |zero=>exact⟨hr,h⟩
  |succ f=>exact⟨fun _=>h,fun i hi=>by rw [hr]at hi;cases hi⟩
 |cons o rest ih=>
  intro m done fuel a w hnm hdrop hsz hdone hu h
  have hm:m<L.length:=by
   rcases lI m L.length with h' |h'
   ·exact h'
   ·rw [GV.2 h']at hdrop;cases hdrop
  have hLm:L[m]? =some o:=by
   have:=ul (xs:=L) (i:=m) (j:=0)
   rw [hdrop]at this
   simpa using this.symm
  have hmu:done.getD m true=false:=by
   have hnot: ¬(done.getD m false=true):=fun V=>by have:=(hdone m hm).1 V;omega
   rw [mL (by omega)]
   exact zh _▸hnot
  have honly: ∀i∈Region.ready .any L.toArray done,i=m:=by
   intro i hi
   obtain⟨hun,p,hp,hwait⟩:=qv.1 hi
   have hp' :L[i]? =some p:=by simpa using hp
   have hil:i<L.length:=(pG.1 hp').1
   have hid: ¬i<m:=fun hlt=>by
    have V:=(hdone i hil).2 hlt
    rw [mL (by omega)]at hun
    rw [hun]at V;cases V
   rcases lI m i with hlt|hge
   ·exfalso
    have hcov:=hc i p (by omega) hp'
    unfold tI at hcov
    have hre:=lY.1 hcov m (by simpa using hlt)
    have:done.getD m false=true:=by
     refine fx (L:=L) (done:=done) (fun j q hj hjd e he H=>?_) _ i m (fun q hq e he H=>?_) hre
     ·have hjl:j<L.length:=(pG.1 hj).1
      have hjm:=(hdone j hjl).1 hjd
      have:=hedge j q hj
      unfold d8 at this
      have:=lY.1 this e (by simpa using he)
      simp only [H,pi,wI,ur]at this
      exact(hdone e.on (by omega)).2 (by omega)
     ·have:q=p:=by rw [hp']at hq;simpa using hq.symm
      subst this
      exact hwait e he H
    have:=(hdone m hm).1 this
    omega
   ·omega
  have hready:m∈Region.ready .any L.toArray done:=by
   rw [qv]
   refine⟨hmu,o,by simpa using hLm,fun e he H=>?_⟩
   have:=hedge m o hLm
   unfold d8 at this
   have:=lY.1 this e (by simpa using he)
   simp only [H,pi,wI,ur]at this
   exact(hdone e.on (by omega)).2 this
  cases fuel with
  |zero=>
   have:=rh hu (i:=m) (by omega)
   have:=(hdone m hm).1 this
   omega
  |succ fuel=>
   refine⟨fun hr=>(by rw [hr]at hready;cases hready),fun i hi=>?_⟩
   have:=honly i hi
   subst this
   have hnext:=fun a w=>ih (i+1) (done.setIfInBounds i true) fuel a w (by omega) (by rw [<-sR,hdrop];rfl) (by simpa using hsz) (fun j hj=>by
    by_cases hij:i=j
    ·subst hij;have:i<done.size:=by omega
     simp [this]
    ·rw [tX false hij,hdone j hj];omega) (by have:=oG hmu;omega)
   unfold wpOpIn
   have hLm' :L.toArray[i]? =some o:=by simpa using hLm
   rw [hLm']
   show if _ then _ else _
   unfold wpListIn at h
   by_cases hw:Region.wanted o (yielded L.toArray a.tmps)=true
   ·rw [bK hw]at h ⊢;exact Oper.wpIn_mono (fun a w hk=>hnext a w hk) h
   ·rw [bG hw]at h ⊢;exact⟨h.1,hnext _ _ h.2⟩
def G2{l t:List Oper}(hsl:sZ E.N.n [] l=true)(hlen:ts.length=l.length)(hd:DR E O G (l++t) ts 0 l)(M:wr (l++t) l.length t.length=true)(hQ: ∀a w S,St E O (Js l ts G) a w S->wpListIn (fw E.r) 0 E.P (l++t).toArray aF t a w):
  ∀(fuel:Nat) (done:Array Bool) (a:Act) (w:World) (S:SH),j5 done=fuel->(∀j,l.length<=j->done.getD j false=false)->DJ E O G (l++t) ts done a w S->wpAnyIn (fw E.r) 0 E.P .any (l++t).toArray aF fuel done a w:=by
 have hL1: ∀i o,i<l.length->(l++t)[i]? =some o->l[i]? =some o:=fun i o hi h=>by rwa [xP hi]at h
 have hL2: ∀i o,l[i]? =some o->(l++t)[i]? =some o:=fun i o h=>by rw [xP (pG.1 h).1];exact h
 have htail: ∀m o,l.length<=m->(l++t)[m]? =some o->tI (l++t) m=true/\d8 m o=true:=fun m o hm ho=>by
  have hml:m<(l++t).length:=(pG.1 ho).1
  rw [mY]at hml
  unfold wr at M
  have:=lY.1 M (m-l.length) (by simp;omega)
  rw [show l.length+(m-l.length)=m from by omega,ho]at this
  simp only [gM]at this
  exact⟨this.1,this.2.1⟩
 have hedge: ∀i o,(l++t)[i]? =some o->d8 i o=true:=fun i o hi=>by
  rcases lI i l.length with h|h
  ·obtain⟨_,_,_,_,_,h,_⟩:=DR.get l 0 hd i o (hL1 i o h hi)
   simpa using h
  ·exact(htail i o h hi).2
 obtain⟨hs1,hs2⟩:=uG l [] hsl
 have fin: ∀fuel done a w S,j5 done=fuel->(∀j,l.length<=j->done.getD j false=false)->DJ E O G (l++t) ts done a w S->(∀i,i<l.length->done.getD i false=true)->wpAnyIn (fw E.r) 0 E.P .any (l++t).toArray aF fuel done a w:=by
  intro fuel done a w S hu hfree h hall
  refine wQ (n:=l.length) (fun m o hm ho=>(htail m o hm ho).1) hedge t l.length done fuel a w (eX _) (by simp) h.dsz (fun j hj=>⟨fun hjd=>?_,fun hlt=>hall j hlt⟩) hu
   (hQ a w S ⟨h.ext,h.sat,h.own,h.size,h.defers,fun j u hj=>?_⟩)
  ·rcases lI j l.length with h' |h'
   ·exact h'
   ·rw [hfree j h']at hjd;cases hjd
  ·rcases EO l ts j u (fun o ho e=>by obtain⟨d,hd,_⟩:=hs1 o ho;rw [hd]at e;cases e) hlen hj with⟨i,o,A,V,h3⟩|⟨A,V⟩
   ·exact h.new i o j u (hL2 i o A) (hall i (pG.1 A).1) V h3
   ·refine h.old j u A fun i o ho hdn=>?_
    rcases lI i l.length with h' |h'
    ·exact V o (rb (hL1 i o h' ho))
    ·rw [hfree i h']at hdn;cases hdn
 have lower: ∀done a w S i,(∀j,l.length<=j->done.getD j false=false)->DJ E O G (l++t) ts done a w S->i∈Region.ready .any (l++t).toArray done->l.length<=i-> ∀j,j<l.length->done.getD j false=true:=by
  intro done a w S i hfree h hi hge j hj
  obtain⟨hun,p,hp,hwait⟩:=qv.1 hi
  have hp' :(l++t)[i]? =some p:=by simpa using hp
  have hcov:=(htail i p hge hp').1
  unfold tI at hcov
  have hre:=lY.1 hcov j (by simp;omega)
  exact fx h.down _ i j (fun q hq e he H=>by
   have:q=p:=by rw [hp']at hq;simpa using hq.symm
   subst this
   exact hwait e he H) hre
 intro fuel
 induction fuel with
 |zero=>
  intro done a w S hu hfree h
  exact fin 0 done a w S hu hfree h fun i hi=>rh hu (by rw [h.dsz,mY];omega)
 |succ fuel ih=>
  intro done a w S hu hfree h
  by_cases hall: ∀i,i<l.length->done.getD i false=true
  ·exact fin _ done a w S hu hfree h hall
  have hready0: ∀m i,i<m->i<l.length->Region.ready .any (l++t).toArray done=[]->done.getD i false=true:=by
   intro m
   induction m with
   |zero=>intro i h;omega
   |succ m ihm=>
    intro i him hil hr
    have his:i<done.size:=by rw [h.dsz,mY];omega
    by_cases hdn:done.getD i true=true
    ·rw [<-mL his];exact hdn
    ·exfalso
     obtain⟨o,ho⟩: ∃o,(l++t)[i]? =some o:=⟨l[i],hL2 i _ (kQ hil)⟩
     have hmem:i∈Region.ready .any (l++t).toArray done:=by
      rw [qv]
      refine⟨by simpa using hdn,o,by simpa using ho,fun e he H=>?_⟩
      have:=hedge i o ho
      unfold d8 at this
      have:=lY.1 this e (by simpa using he)
      simp only [H,pi,wI,ur]at this
      exact ihm e.on (by omega) (by omega) hr
     rw [hr]at hmem;cases hmem
  refine⟨fun hr=>absurd (fun i hi=>hready0 (i+1) i (by omega) hi hr) hall,fun i hi=>?_⟩
  have hil:i<l.length:=by
   rcases lI i l.length with h' |h'
   ·exact h'
   ·exact absurd (lower done a w S i hfree h hi h') hall
  obtain⟨hun,o,ho,hwait⟩:=qv.1 hi
  have ho' :(l++t)[i]? =some o:=by simpa using ho
  have hol:=hL1 i o hil ho'
  obtain⟨needs,u,A,V,h3,_,h5⟩:=DR.get l 0 hd i o hol
  rw [ph]at A h3
  have hF:=h.need ho' hun hwait V h3
  have h6:=h5 a w S h.sat h.own hF
  have hu' :j5 (done.setIfInBounds i true)=fuel:=by have:=oG hun;omega
  obtain⟨d,hdd,hdN,_⟩:=hs1 o (rb hol)
  have huq: ∀j p,(l++t)[j]? =some p->done.getD j false=true->p.dst=some d->i=j:=fun j p hj hjd hpd=>by
   rcases lI j l.length with h' |h'
   ·exact hs2 i j o p hol (hL1 j p h' hj) (by rw [hdd,hpd])
   ·rw [hfree j h']at hjd;cases hjd
  have hfree' : ∀j,l.length<=j->(done.setIfInBounds i true).getD j false=false:=fun j hj=>by
   rw [tX false (by omega)];exact hfree j hj
  unfold wpOpIn
  rw [ho]
  show if _ then _ else _
  by_cases hw:Region.wanted o (yielded (l++t).toArray a.tmps)=true
  ·rw [bK hw]at h6 ⊢
   refine jS (fun a' w' ⟨v,S',ha,he,hs,hv⟩=>?_) h6
   subst ha
   exact ih _ _ _ S' hu' hfree' (h.stepT ho' hdd hdN huq hwait A hun he hs hv)
  ·rw [bG hw]at h6 ⊢
   exact⟨fun _ _=>trivial,ih _ _ _ S hu' hfree' (h.stepT ho' hdd hdN huq hwait A hun (je.refl _ _ _) h.sat h6)⟩
def PW{id:Nat}{l t:List Oper}(hL:L=l++t)(hm:E.P.follows .mixedOrders=true)(hsl:sZ E.N.n [] l=true)(hlen:ts.length=l.length)(M:wr L l.length t.length=true)(hd:DR E O G L ts 0 l)(k:RG E L.toArray aF t O (Js l ts G)):CG E aF (.region id L.toArray true) O G:=fun a w S st=>by
 subst hL
 refine wpIn_region_any hm ?_
 obtain⟨he,hs⟩:=zd (w:=w) st.sat
 refine G2 hsl hlen hd M (fun a w S st=>k a w S st) _ _ _ _ S ?_ (fun j _=>?_)
  ⟨st.ext.step0 he,hs,st.own.ext0 he,st.facts.size,st.facts.defers,by simp,fun j o hj hdone=>?_,fun k t hk _=>st.facts.at_ k t hk,fun j o d t hj hdone=>?_⟩
 ·unfold j5;rw [KC,Kx];simp
 ·simp [wM];split<;>rfl
 ·simp [wM]at hdone
  split at hdone<;>simp at hdone
 ·simp [wM]at hdone
  split at hdone<;>simp at hdone

abbrev It(α:Type):=(σ:Type)->(α->σ->Option (Bool×σ))->σ->Option σ

def cH.weak: ∀{O:List OE},cH base B w S O->cH 0 rp w S O
 |[],_=>trivial
 |_::_,⟨A,V,h3⟩=>⟨⟨A.1,fun _ _=> .inl (jM _)⟩,V,cH.weak h3⟩
def vY: ∀{O:List OE},cH 0 rp w S O->(∀f∈O,∀k,f.fp k->base<=k\/B k)->cH base B w S O
 |[],_,_=>trivial
 |_::_,⟨A,V,h3⟩,h=>⟨⟨A.1,h _ (ln ..)⟩,V,vY h3 fun f hf=>h f (lH _ hf)⟩
section
variable{ty:TypeId}
end
def Ln:List OE->List OE->Prop
 |[],_=>True
 |f::O,g::O' =>(∀k,f.fp k->g.fp k)/\Ln O O'
 |_::_,[]=>False
def Ln.mem: ∀{O O' :List OE},Ln O O' -> ∀k,(∃f∈O,f.fp k)-> ∃f∈O',f.fp k
 |f::O,g::O',⟨A,V⟩,k,⟨q,hq,hk⟩=>by
  rcases lK.1 hq with e|e
  ·subst e;exact⟨g,ln ..,A k hk⟩
  ·obtain⟨q',h3,h4⟩:=Ln.mem V k ⟨q,e,hk⟩
   exact⟨q',lH _ h3,h4⟩

variable{O1:List OE}{ι:Type}{O2:ι->List OE}
def nM: ∀{O1 O2:List OE},cH base B w S (O1++O2)->cH base B w S O1/\cH base B w S O2/\ ∀e∈O1,∀f∈O2,e.apart f
 |[],_,h=>⟨trivial,h,fun _ h=>(by cases h)⟩
 |e::O1,O2,⟨A,V,h3⟩=>by
  obtain⟨k1,k2,k3⟩:=nM h3
  refine⟨⟨A,fun f hf=>V f (BQ _ hf),k1⟩,k2,fun g hg f hf=>?_⟩
  rcases lK.1 hg with rfl|hg
  ·exact V f (Kw _ hf)
  ·exact k3 g hg f hf
def cH.cons{e:OE}(A:e.holds base B w S)(V: ∀f∈O,e.apart f)(h3:cH base B w S O):cH base B w S (e::O):=⟨A,V,h3⟩

section
section
variable{ty:TypeId}
end
end


section
variable{R:Ending->World->Prop}{ds:List Deferred}
end
def rT(t:Ty):Rp Unit where
 sz:=1
 agg:=false
 rc:=fun S cs _=> ∃v,cs=[v]/\v.oneCell' =true/\t.p S v
 mono:=fun h ⟨v,e,k,l⟩=>⟨v,e,k,t.mono h l⟩
 len:=fun⟨_,e,_⟩=>by rw [e];rfl
 one:=fun⟨v,e,k,_⟩ c hc=>by rw [e]at hc;simp at hc;subst hc;exact k
 sc:=fun _=>rfl
def WJ{t:Ty}{u:Unit}{v:Value}:(K (rT t) u).p S v↔v.oneCell' =true/\t.p S v:=by
 constructor
 ·rintro⟨cs,rfl,w,rfl,A,V⟩;exact⟨A,V⟩
 ·rintro⟨A,V⟩;exact⟨[v],rfl,v,rfl,A,V⟩
variable{k' :IntKind}{lo:Int}
section
variable{ty:TypeId}
def bM.imp{t u:Ty}(h:bM E O G o t)(k: ∀S v,t.p S v->u.p S v):bM E O G o u:=fun a w S hs ho hf=>
 mH (fun _ _ ⟨v,S',A,V,h3,h4⟩=>⟨v,S',A,V,h3,k S' v h4⟩) (h a w S hs ho hf)
def K8{args:α->List Ty}{res:β->Ty}{f:α->Option β}(D:aC E.N G x (gn E.P args res f)):bM E O G ⟨dst,.box T x,ty,pos,after,g⟩ (aU (rT (gn E.P args res f)) ()):=
 Jx (fun S a hf=>WJ.2 ⟨by obtain⟨_,_,e,_⟩:=D S a hf;rw [e];rfl,D S a hf⟩)
def pu{t:Ty}{p:Operand}(ti:TI E.P U 1 bytes false z)(hp:aC E.N G p (aU (rT t) ())):bM E O G ⟨dst,.load U p,ty,pos,after,g⟩ t:=
 (nc (r:=rT t) (x:=()) ti rfl rfl hp).imp fun _ _ h=>(WJ.1 h).2

def Tl:rV.rc S [.slice none 0 0] (Y none 0 0):=⟨rfl,rfl⟩
def Qd{N:Fr}(h:aC N G x (tV (Y l cap n))):aC N G x (K rV (Y l cap n)):=fun S a hf=>ye.2 ⟨h S a hf,by cases l<;>rfl⟩
def sF{p:Operand}(ti:TI E.P U 1 bytes false z)(hm:bx rV T b (Y l cap n)∈O)(hp:aC E.N G p (tV (ak b 0))):
  bM E O G ⟨dst,.load U p,ty,pos,after,g⟩ (tV (Y l cap n)):=(bz (q:=rV) (get:=fun x=>x) ti rfl rfl cr hm hp).imp fun _ _ h=>(ye.1 h).1

def cE{α:Type}(xs:List α)(lo hi:Int):Option (List α):=if 0<=lo/\lo<=hi/\hi<=(xs.length:Int)then some ((xs.take hi.toNat).drop lo.toNat)else none
def fe(h:cE xs lo hi=some ys): ∃l m:Nat,lo=l/\hi=m/\l<=m/\m<=xs.length/\ys=(xs.take m).drop l:=by
 unfold cE at h
 split at h
 ·rename_i hc
  exact⟨lo.toNat,hi.toNat,by omega,by omega,by omega,by omega,by simpa using h.symm⟩
 ·cases h
def wW{a:Option Addr}{l:Nat}(h:Hi r S a xs)(hl:l<=m)(hm:m<=xs.length)(hc:xs.length<=cap):
  Hi r S (if cap=l then a else a.map (·.add (l*r.sz))) ((xs.take m).drop l):=by
 by_cases hlm:l=m
 ·left;subst hlm;simp
 right
 rcases h with h|⟨b,off,c,T,fr,e1,e2,e3⟩
 ·subst h;simp at hm;omega
 subst e1
 have hne: ¬(cap=l):=by omega
 refine⟨b,off+l*r.sz,c,T,fr,?_,e2,?_⟩
 ·rw [bG hne];simp [Addr.add]
 have hlen:((xs.take m).drop l).length=m-l:=by simp;omega
 have e4:xs=(xs.take m).take l++((xs.take m).drop l++xs.drop m):=by
  rw [<-gQ,rX,rX]
 have A:((xs.take m).take l).length=l:=by simp;omega
 rw [e4]at e3
 have V:=(nH e3).2
 have h3:=(nH V).1
 rw [A]at h3
 rw [hlen]at h3 ⊢
 rw [<-e4]at h3
 rw [xT,A2,sR]at h3
 have hmin:min ((m-l)*r.sz) (xs.length*r.sz-l*r.sz)=(m-l)*r.sz:=by
  rw [<-Nat.sub_mul];exact xM (wL _ (by omega))
 rwa [hmin]at h3
def nX{n:Int}{y:Nat}{code:BoundsCode}(h0:0<=n)(A:n<=y):(Instr.sliceBound (.int k n) y code).run P w= .ok n.toNat w:=by
 simp [Instr.sliceBound,asIntOf,h0,A]
def j9{hi:Operand}(M:E.P.underlying t=some (.slice T))(ti:TI E.P T sz bytes agg z)(hsz:r.sz=sz)(D:aC E.N G x (K (eF r) xs))(hhi:aC E.N G hi (K (rI k') j))(h:cE xs 0 j=some ys):bM E O G ⟨dst,.slice t x none (some hi) none,ty,pos,after,g⟩ (K (eF r) ys):=
 .of_pure fun a w S _ _ hf=>by
  subst hsz
  obtain⟨ad,cap,A,V,h3,h4⟩:=kR.1 (D S a hf)
  have h6:=eD.1 (hhi S a hf)
  obtain⟨l,m,hl,rfl,h7,h8,rfl⟩:=fe h
  have hl0:l=0:=by omega
  subst hl0
  have hlen:((xs.take m).drop 0).length=m-0:=by simp;omega
  refine⟨.slice (if cap=0 then ad else ad.map (·.add (0*r.sz))) (m-0) (cap-0),?_,kR.2 ⟨_,cap-0,by rw [hlen],by omega,by omega,wW h4 h7 h8 V⟩⟩
  simp [execOp,Instr.sliceAt,A,h6,Instr.slice,gP M,Instr.sliceBounds,nX (k:=k') (n:=(m:Int)) (y:=cap) (by omega) (by omega),ti.sizeOf]
def Ju{lo:Operand}{i:Int}(M:E.P.underlying t=some (.slice T))(ti:TI E.P T sz bytes agg z)(hsz:r.sz=sz)(D:aC E.N G x (K (eF r) xs))(hlo:aC E.N G lo (K (rI k) i))(h:cE xs i (xs.length:Int)=some ys):bM E O G ⟨dst,.slice t x (some lo) none none,ty,pos,after,g⟩ (K (eF r) ys):=
 .of_pure fun a w S _ _ hf=>by
  subst hsz
  obtain⟨ad,cap,A,V,h3,h4⟩:=kR.1 (D S a hf)
  have h5:=eD.1 (hlo S a hf)
  obtain⟨l,m,rfl,hm,h7,h8,rfl⟩:=fe h
  have hm' :m=xs.length:=by omega
  subst hm'
  have hlen:((xs.take xs.length).drop l).length=xs.length-l:=by simp
  refine⟨.slice (if cap=l then ad else ad.map (·.add (l*r.sz))) (xs.length-l) (cap-l),?_,kR.2 ⟨_,cap-l,by rw [hlen],by omega,by omega,wW h4 h7 h8 V⟩⟩
  simp [execOp,Instr.sliceAt,A,h5,Instr.slice,gP M,Instr.sliceBounds,nX (k:=k) (n:=(l:Int)) (y:=xs.length) (by omega) (by omega),ti.sizeOf]
end
def vr{id:Nat}(m:Nat)(hm:E.P.follows .mixedOrders=true)(hsl:sZ E.N.n [] (L.take m)=true)(hlen:ts.length=(L.take m).length)(M:wr L (L.take m).length (L.drop m).length=true)(hd:DR E O G L ts 0 (L.take m))(k:RG E L.toArray aF (L.drop m) O (Js (L.take m) ts G)):CG E aF (.region id L.toArray true) O G:=PW (rX m L).symm hm hsl hlen M hd k

def ki(P:Program){α:Type} [DecidableEq α](t:TypeId)(r:Rp α)(n:Nat):Prop:=
 ∀(S:SH) (cs ds:List Value) (x y:α) (d:Nat) (w:World),r.rc S cs x->r.rc S ds y->(Op.equalIn (d+n) t (r.val cs) (r.val ds)).run P w= .ok (decide (x=y)) w
def rG(h:P.underlying t=some (.int k')):ki P t (rI k) (n+1):=fun S cs ds x y d w D hy=>by
 have A:cs=[.int k x]:=D
 have V:ds=[.int k y]:=hy
 subst A V
 have:(Op.equalIn (d+n+1) t (.int k x) (.int k y)).run P w= .ok (x==y) w:=by simp [Op.equalIn,gP h]
 have e:(x==y)=decide (x=y):=by by_cases h:x=y<;>simp [h]
 rw [e]at this
 exact this
def Gx(h:P.underlying t=some .string):ki P t rS (n+1):=fun S cs ds x y d w D hy=>by
 have A:cs=[.string ⟨x.toArray⟩]:=D
 have V:ds=[.string ⟨y.toArray⟩]:=hy
 subst A V
 have:=run_equalIn_string (P:=P) w (d+n) t ⟨x.toArray⟩ ⟨y.toArray⟩ h
 simp only [Rp.val,rS,List.headD_cons,j0,iB]
 rw [show d+(n+1)=d+n+1 from rfl,this]
 simp only [ByteArray.toList_eq]
 by_cases e:x=y<;>simp [e]
abbrev Fd:=TypeId×Nat×Bool
def JO(f:Field):Fd:=(f.type,f.offset,f.name== "_")
def Ni(d:Nat)(xs ys:Array Value):List Fd->Sem Bool
 |[]=>pure true
 |f::fs=>
  if f.2.2=false then do
   let a<-part f.1 xs f.2.1
   let b<-part f.1 ys f.2.1
   let r<-Op.equalIn d f.1 a b
   if(!r)=true then pure false else Ni d xs ys fs
  else Ni d xs ys fs
def Ik(d:Nat)(xs ys:Array Value): ∀fs:List Field,Op.eqFields d xs ys fs=Ni d xs ys (fs.map JO)
 |[]=>rfl
 |f::fs=>by
  unfold Op.eqFields Ni
  rw [Ik d xs ys fs]
  by_cases h:f.name= "_"
  ·have e:((JO f).2.2=false)=False:=by simp [JO,h]
   simp only [sn,e,iB]
   rw [bG (by simpa using h)]
  ·have e:((JO f).2.2=false)=True:=by simp [JO,h]
   simp only [sn,e,gO]
   rw [bK (by simpa using h)]
   rfl
def Fm(P:Program){α:Type}(r:Rp α)(n:Nat)(fs:List Fd)(c:α->α->Bool):Prop:=
 ∀(S:SH) (cs ds:List Value) (x y:α) (d:Nat) (w:World),r.rc S cs x->r.rc S ds y->(Ni (d+n) cs.toArray ds.toArray fs).run P w= .ok (c x y) w
def Fm.nil:Fm P r n [] (fun _ _=>true):=fun _ _ _ _ _ _ _ _ _=>rfl
def p6(ti:TI P t sz bytes agg z)(hsz:q.sz=sz)(hag:q.agg=agg)(hf:g9 r off q get){cs:List Value}{x:α}(D:r.rc S cs x)(w:World):
  (part t cs.toArray off).run P w= .ok (q.val ((cs.drop off).take q.sz)) w:=by
 have h:=hf S cs x D
 have hl:=q.len h
 subst hsz hag
 unfold part
 by_cases ha:q.agg=true
 ·have e1:=ti.isAgg w
  simp only [ow,e1,ha,pl,gO,ti.sizeOf,Ax]
  unfold Rp.val
  rw [bK ha]
  congr 2
  apply Array.ext'
  simp
 ·rw [zh]at ha
  have e1:=ti.isAgg w
  have hs1:=q.sc ha
  simp only [ow,e1,ha,pl,j0,iB]
  rw [hs1]at hl ⊢
  obtain⟨v,hv⟩:=List.length_eq_one_iff.1 hl
  have hc:cs[off]? =some v:=by
   have:((cs.drop off).take 1)[0]? =some v:=by rw [hv];rfl
   rw [zk (by omega),ul]at this
   simpa using this
  unfold Rp.val
  rw [hv,ha]
  simp [hc]
def Fm.cons [DecidableEq β]{t:Nat}{fs:List Fd}{c:α->α->Bool}(ti:TI P t sz bytes agg z)(hsz:q.sz=sz)(hag:q.agg=agg)(hf:g9 r off q get)(he:ki P t q n)(hr:Fm P r n fs c):
  Fm P r n ((t,off,false)::fs) (fun x y=>decide (get x=get y)&&c x y):=fun S cs ds x y d w D hy=>by
 have A:=p6 ti hsz hag hf D w
 have V:=p6 ti hsz hag hf hy w
 have h3:=he S _ _ _ _ d w (hf S cs x D) (hf S ds y hy)
 unfold Ni
 simp only [gO,ow,A,V,h3,pl]
 by_cases e:get x=get y
 ·simp only [e,decide_true,pi,j0,iB,ut]
  exact hr S cs ds x y d w D hy
 ·simp [e]
def xv [DecidableEq α]{t:Nat}{fs:List Fd}{c:α->α->Bool}(M:(P.underlying t).map (fun d=>match d with| .struct l=>(true,l.toList.map JO)|_=>(false,[]))=some (true,fs))(hp:P.stoodInHeld t=false)(ha:r.agg=true)(hr:Fm P r n fs c)(hc: ∀x y,c x y=decide (x=y)):ki P t r (n+1):=fun S cs ds x y d w D hy=>by
 obtain⟨l,A,V⟩: ∃l,P.underlying t=some (.struct l)/\l.toList.map JO=fs:=by
  cases hu:P.underlying t with
  |none=>rw [hu]at M;cases M
  |some d=>
   rw [hu]at M
   cases d<;>simp at M
   exact⟨_,rfl,M⟩
 have hfo:P.fieldsOf t=l:=by unfold Program.fieldsOf;rw [A]
 have:=run_equalIn_struct (P:=P) w (d+n) t cs.toArray ds.toArray (by rw [hfo];exact A) hp
 rw [pX ha,pX ha,show d+(n+1)=d+n+1 from rfl,this,hfo,Ik,V,hr S cs ds x y d w D hy,hc]
def jH [DecidableEq α](h:ki P t r n)(m:Nat):ki P t r (m+n):=fun S cs ds x y d w D hy=>by
 have:=h S cs ds x y (d+m) w D hy
 rwa [Nat.add_assoc]at this
def LW.of [DecidableEq α](hg:P.eqGuardType P.depth t=false)(h:ki P t r 20):LW P t r:=⟨hg,fun S cs ds x y d w D hy=>h S cs ds x y d w D hy⟩

def Ps{l:List α}{e:α}(h:xs.drop i=e::l):decide ((i:Int)<(xs.length:Int))=true:=by
 have:i<xs.length:=by
  rcases lI i xs.length with h' |h'
  ·exact h'
  ·rw [KA h']at h;cases h
 simp;omega
def SB(h:xs.drop i=[]):decide ((i:Int)<(xs.length:Int))=false:=by
 have:=GV.1 h
 simp;omega
def dJ{l:List α}{e:α}(h:xs.drop i=e::l):xs.drop (i+1)=l:=by
 rw [<-sR,h];rfl
def ei{l:List α}{e:α}(h:xs.drop i=e::l):fE xs (i:Int)=some e:=by
 rw [mK]
 have:=ul (xs:=xs) (i:=i) (j:=0)
 rw [h]at this
 simpa using this.symm
def Pt{l:List α}{e:α}(h:xs.drop i=e::l)(hN:xs.length<=maxLen):i<9223372036854775807:=by
 have:=of_decide_eq_true (Ps h)
 simp only [maxLen]at hN
 omega
def OL{k:Nat}(h:N-i=k+1):decide ((i:Int)<(N:Int))=true:=by simp;omega
def OM(h:N-i=0):decide ((i:Int)<(N:Int))=false:=by simp;omega
def MK{k:Nat}(h:N-i=k+1):N-(i+1)=k:=by omega
def ML{k:Nat}(h:N-i=k+1)(hN:N<=9223372036854775807):i<9223372036854775807:=by omega
def Vi(h:n<=maxLen):n<=9223372036854775807:=by simp only [maxLen]at h;omega
variable{ix:Operand}{zs:List α}
section
section
variable{ty:TypeId}
def ta{one:Operand}{xt yt:TypeId}(hi:i<9223372036854775807)(D:aC E.N G x (K (rI .i64) (i:Int)))(A:aC E.N G one (K (rI .i64) 1)):
  bM E O G ⟨dst,.binOp .add xt x one yt,ty,pos,after,g⟩ (K (rI .i64) ((i+1:Nat):Int)):=by
 have e:IntKind.i64.wrap ((i:Int)+1)=((i+1:Nat):Int):=by
  rw [BU];omega
 have:=oM (E:=E) (O:=O) (dst:=dst) (ty:=ty) (pos:=pos) (after:=after) (g:=g) (xt:=xt) (yt:=yt) D A
 rwa [e]at this
end
def lm(hm:jL mm r T l cap xs∈O)(h:xs.length<=maxLen->CG E aF c O G):CG E aF c O G:=fun a w S st=>by
 refine h ?_ a w S st
 obtain⟨cells,A,_⟩:=(st.own.mem _ hm).1
 cases l with
 |none=>have:=A.1;omega
 |some b=>obtain⟨cur,_,g2,g3,_⟩:=A;exact lp g2 g3
def St.dataAt{k:Nat}(h:St E O G a w S)(hk:look G k=some (tO r l cap xs)):St E O ((k,K (eF r) xs)::G) a w S:=h.cons (h.facts.at_ k _ hk).2
def Aq(k:Nat)(hk:look G k=some (tO r l cap xs))(h:CG E aF c O ((k,K (eF r) xs)::G)):CG E aF c O G:=fun a w S st=>h a w S (st.dataAt hk)
def lG(k:Nat)(hk:look G k=some (tO r l cap xs))(h:AT E aF e O ((k,K (eF r) xs)::G)):AT E aF e O G:=fun a w S st=>h a w S (st.dataAt hk)
def cK(l:Option Nat)(off:Nat):Value:=
 match l with
 |none=> .pointer none
 |some b=>ak b off
def n7(h:wk mm r T l cap xs w S){e:α}(hi:xs[i]? =some e):
  ∃b cur,l=some b/\w.heap[b]? =some (.cells cur T (0,0))/\xs.length<=cap/\cur.size=cap*r.sz/\r.rc S ((cur.toList.drop (i*r.sz)).take r.sz) e:=by
 obtain⟨cells,A,V,_⟩:=h
 have hlt:=(pG.1 hi).1
 cases l with
 |none=>have:=A.1;omega
 |some b=>
  obtain⟨cur,g1,g2,g3,g4,g5⟩:=A
  refine⟨b,cur,rfl,g1,g2,g4,?_⟩
  have h3:=yn V hi
  rw [<-g5,xT,A2]at h3
  have h4:i*r.sz+r.sz<=xs.length*r.sz:=by
   rw [<-Nat.succ_mul];exact wL _ hlt
  rwa [xM (by omega)]at h3
def iu{i:Int}{e:α}(h:fE xs i=some e):0<=i/\xs[i.toNat]? =some e:=by
 unfold fE at h
 split at h
 ·exact⟨by assumption,h⟩
 ·cases h
section
variable{ty:TypeId}
def bU{e:TypeId}{i:Int}(M:E.P.underlying t=some (.slice e))(ti:TI E.P e sz bytes agg z)(hm:jL mm r U l cap xs∈O)(D:aC E.N G x (tV (Y l cap n)))(hi:aC E.N G ix (K (rI k) i))(hy:fE xs i=some y)(hn:n=xs.length:=by rfl):
  bM E O G ⟨dst,.indexAddr t x ix,ty,pos,after,g⟩ (tV (cK l (i.toNat*sz+0))):=
 .of_pure fun a w S _ ho hf=>by
  subst hn
  have A:a.eval x=Y l cap xs.length:=D S a hf
  have h3:a.eval ix= .int k i:=eD.1 (hi S a hf)
  obtain⟨h0,hy'⟩:=iu hy
  obtain⟨b,cur,rfl,_⟩:=n7 (ho.mem _ hm).1 hy'
  have hlt:i.toNat<xs.length:=(pG.1 hy').1
  refine⟨_,?_,rfl⟩
  have hc:0<=i/\i<(xs.length:Int):=⟨h0,by omega⟩
  simp [execOp,A,h3,Y,Instr.indexAt,asIntOf,gP M,hc,ti.sizeOf,gE,cK,ak]
def dd{foff:Nat}{i:Int}{p:Operand}(ti:TI E.P T sz bytes agg z)(hsz:q.sz=sz)(hag:q.agg=agg)(hget:g9 r foff q get)(hoff:Nat.ble (foff+q.sz) r.sz=true)(hm:jL mm r U l cap xs∈O)(hy:fE xs i=some y)(hp:aC E.N G p (tV (cK l (i.toNat*r.sz+foff)))):bM E O G ⟨dst,.load T p,ty,pos,after,g⟩ (K q (get y)):=
 .of_pure fun a w S _ ho hf=>by
  have A:a.eval p=cK l (i.toNat*r.sz+foff):=hp S a hf
  obtain⟨h0,hy'⟩:=iu hy
  obtain⟨b,cur,rfl,H,_,_,h6⟩:=n7 (ho.mem _ hm).1 hy'
  have hoff' :=pI hoff
  have h7:=hget S _ _ h6
  rw [xT,A2,sR,xM (by omega)]at h7
  refine⟨_,?_,_,rfl,h7⟩
  simp [execOp,A,cK,ak,Instr.loadAt,Instr.sureAddr,jw ti H hsz hag h7]
def D5{o:Nat}{p:Operand}(hf:aT E.P T i=some (off,sz))(h0:Nat.beq sz 0=false)(hm:jL mm r U l cap xs∈O)(hy:fE xs j=some y)(hp:aC E.N G p (tV (cK l o))):
  bM E O G ⟨dst,.fieldAddr T p i,ty,pos,after,g⟩ (tV (cK l (o+off))):=
 .of_pure fun a w S _ ho hF=>by
  have A:a.eval p=cK l o:=hp S a hF
  obtain⟨_,hy'⟩:=iu hy
  obtain⟨b,cur,rfl,_⟩:=n7 (ho.mem _ hm).1 hy'
  obtain⟨fs,f,e1,e2,e3,e4⟩:=zK hf
  have h0' :sz≠0:=fun e=>by subst e;simp at h0
  refine⟨_,?_,rfl⟩
  simp [execOp,A,cK,ak,Instr.fieldAt,gP e1,e2,Instr.sureAddr,fieldPlace,e4,h0',e3,gE]
end
def yl{α:Type}{r:Rp α}{S:SH}{y:α}{c:List Value}(hc:r.rc S c y): ∀{xs:List α} {i:Nat} {cs:List Value},pF r S cs xs->i<xs.length->pF r S (cs.take (i*r.sz)++c++cs.drop (i*r.sz+r.sz)) (xs.set i y)
 |[],_,_,_,h=>by simp at h
 |x::xs,0,cs,⟨a,b,e,A,V⟩,_=>by
  have hl:=r.len A
  refine⟨c,b,?_,hc,V⟩
  rw [e,<-hl];simp
 |x::xs,i+1,cs,⟨a,b,e,A,V⟩,h=>by
  have hl:=r.len A
  have ih:=yl hc V (i:=i) (by simpa using h)
  refine⟨a,_,?_,A,ih⟩
  have e1:(i+1)*r.sz=a.length+i*r.sz:=by rw [hl,v8];omega
  rw [e,e1,List.take_length_add_append,Nat.add_assoc,List.drop_length_add_append]
  simp
def oX{foff:Nat}{v:β}{i:Int}{p:Operand}{ty:TypeId}(ti:TI E.P T sz bytes agg z)(hsz:q.sz=sz)(hset:dW r foff q set)(hoff:Nat.ble (foff+q.sz) r.sz=true)(hy:fE xs i=some y)(hz:xs.set i.toNat (set y v)=zs)(hp:aC E.N G p (tV (cK l (i.toNat*r.sz+foff))))(D:aC E.N G x (K q v))(k:RG E ops aF rest (fq r U l cap zs::O) G):
  RG E ops aF (⟨none,.store T p x,ty,pos,after,none⟩::rest) (fq r U l cap xs::O) G:= .of rfl fun a w S st=>by
 subst hz
 have A:a.eval p=cK l (i.toNat*r.sz+foff):=hp S a st.facts
 obtain⟨ds,V,h3⟩:=D S a st.facts
 obtain⟨h0,hy'⟩:=iu hy
 have hlt:i.toNat<xs.length:=(pG.1 hy').1
 obtain⟨cells,hraw,hrc,hno⟩:=st.own.1.1
 obtain⟨b,cur,rfl,H,hle,hcs,h6⟩:=n7 st.own.1.1 hy'
 obtain⟨cur',hb',hle',hmax,hcs',hct⟩:=hraw
 have hcc:cur' =cur:=by rw [H]at hb';injection hb' with e;injection e with e1;exact e1.symm
 subst hcc
 have hno' :S b=none:=hno b rfl
 have hoff' :=pI hoff
 have hl3:=q.len h3
 have hmul:i.toNat*r.sz+r.sz<=xs.length*r.sz:=by rw [<-Nat.succ_mul];exact wL _ hlt
 have hmul2:xs.length*r.sz<=cur'.size:=by rw [hcs];exact wL _ hle
 obtain⟨w',hr,e1,e2,e3,e4,e5,e6⟩:=gK ti hsz h3 H (off:=i.toNat*r.sz+foff) (by omega)
 have hrun:(execOp a.eval ⟨none,.store T p x,ty,pos,after,none⟩).run E.P w= .ok .skip w' :=by
  simp [execOp,A,V,Instr.storeAt,cK,ak,Instr.sureAddr,hr]
 refine⟨fun c h=>(by cases h),?_⟩
 rw [hrun]
 have hnew:=hset S _ _ _ _ h6 h3
 have hrc' :=yl hnew hrc hlt
 have hcl:=kl hrc
 have hcells:(cur'.toList.take (i.toNat*r.sz+foff)++ds++cur'.toList.drop (i.toNat*r.sz+foff+q.sz)).take (xs.length*r.sz)=
   cells.take (i.toNat*r.sz)++(((cur'.toList.drop (i.toNat*r.sz)).take r.sz).take foff++ds++((cur'.toList.drop (i.toNat*r.sz)).take r.sz).drop (foff+q.sz))++cells.drop (i.toNat*r.sz+r.sz):=by
  subst hct
  apply GR
  intro j
  simp only [List.getElem?_take,List.getElem?_append,ul,zf,xV,mY,DP]
  rcases lI j (xs.length*r.sz)with hj|hj
  ·simp only [hj,gO]
   rcases lI j (i.toNat*r.sz)with hj1|hj1
   ·rw [bK (by omega),bK (by omega),bK (by omega),bK (by omega),bK (by omega),bK (by omega)]
   ·rcases lI j (i.toNat*r.sz+foff)with hj2|hj2
    ·rw [bK (by omega),bK (by omega),bK (by omega),bK (by omega),bG (by omega),bK (by omega),bK (by omega),bK (by omega),bK (by omega)]
     congr 1;omega
    ·rcases lI j (i.toNat*r.sz+foff+q.sz)with hj3|hj3
     ·rw [bK (by omega),bG (by omega),bK (by omega),bG (by omega),bK (by omega),bG (by omega)]
      congr 1;omega
     ·rw [bG (by omega)]
      rcases lI j (i.toNat*r.sz+r.sz)with hj4|hj4
      ·rw [bK (by omega),bG (by omega),bG (by omega),bK (by omega)]
       congr 1;omega
      ·rw [bG (by omega),bK (by omega)]
       congr 1;omega
  ·rw [bG (by omega),bG (by omega),bG (by omega)]
 obtain⟨g1,g2,g3⟩:=kw (O:=O) st.sat (fq r U (some b) cap xs) (fq r U (some b) cap (xs.set i.toNat (set y v))) st.own (fun k=>⟨fun h=>(nO h).symm,fun h=>by rw [h];rfl⟩) (fun k=>⟨fun h=>(nO h).symm,fun h=>by rw [h];rfl⟩) ⟨e1,e2,e3,e4.1,e4.2⟩ e6
  ⟨_,⟨_,e5,by rw [BT];exact hle,hmax,by simp only [BV,mY,zf,xV,DP];omega,by rw [BT];exact hcells⟩,hrc',fun k hk=>by rw [<-nO hk];exact hno'⟩ hno'
 exact k _ _ S ⟨st.ext.step g1 (fun c hc=>st.own.1.2 c (by rw [hc];rfl)),g2,g3,st.facts⟩

def lV(sz:Nat)(l:Option Nat)(cap lo n:Nat):Value:=
 match l with
 |none=> .slice none 0 0
 |some b=> .slice (some ⟨b,if cap=lo then 0 else lo*sz,none⟩) n (cap-lo)
section
variable{ty:TypeId}
def EE(h:wk mm r U l cap xs w S): ∃ad c,Y l cap xs.length= .slice ad xs.length c/\xs.length<=c/\ad=l.map (fun b=>⟨b,0,none⟩)/\(l=none->c=0/\xs=[])/\(l≠none->c=cap):=by
 obtain⟨cells,A,_⟩:=h
 cases l with
 |none=>
  have D:xs=[]:=sW A.1
  subst D
  exact⟨none,0,rfl,eX _,rfl,fun _=>⟨rfl,rfl⟩,fun h=>absurd rfl h⟩
 |some b=>
  obtain⟨cur,_,g2,_⟩:=A
  exact⟨_,cap,rfl,g2,rfl,fun h=>(by cases h),fun _=>rfl⟩
def ro{hi:Operand}(M:E.P.underlying t=some (.slice T))(ti:TI E.P T sz bytes agg z)(hsz:r.sz=sz)(hm:jL mm r U l cap xs∈O)(D:aC E.N G x (tV (Y l cap n)))(hhi:aC E.N G hi (K (rI k') j))(h:cE xs 0 j=some ys)(hn:n=xs.length:=by rfl):bM E O G ⟨dst,.slice t x none (some hi) none,ty,pos,after,g⟩ (tV (Y l cap ys.length)):=
 .of_pure fun a w S _ ho hf=>by
  subst hsz
  subst hn
  have A:a.eval x=Y l cap xs.length:=D S a hf
  obtain⟨ad,c,V,h3,h4,h5,h5'⟩:=EE (ho.mem _ hm).1
  have h6:=eD.1 (hhi S a hf)
  obtain⟨lo,m,hl,rfl,h7,h8,rfl⟩:=fe h
  have hl0:lo=0:=by omega
  subst hl0
  have hlen:((xs.take m).drop 0).length=m:=by simp;omega
  refine⟨_,?_,rfl⟩
  rw [V]at A
  have hr:(execOp a.eval ⟨dst,.slice t x none (some hi) none,ty,pos,after,g⟩).run E.P w= .ok (.value (.slice ad m c)) w:=by
   simp [execOp,Instr.sliceAt,A,h6,Instr.slice,gP M,Instr.sliceBounds,nX (k:=k') (n:=(m:Int)) (y:=c) (by omega) (by omega),ti.sizeOf]
   cases ad<;>simp [Addr.add]
  rw [hr,hlen,h4]
  cases l with
  |none=>
   obtain⟨rfl,rfl⟩:=h5 rfl
   have:m=0:=by simpa using h8
   subst this;rfl
  |some b=>rw [h5' (by simp)];rfl
def pt{lo:Operand}{i:Int}(M:E.P.underlying t=some (.slice T))(ti:TI E.P T sz bytes agg z)(hsz:r.sz=sz)(hm:jL mm r U l cap xs∈O)(D:aC E.N G x (tV (Y l cap n)))(hlo:aC E.N G lo (K (rI k) i))(h:cE xs i (xs.length:Int)=some ys)(hn:n=xs.length:=by rfl):bM E O G ⟨dst,.slice t x (some lo) none none,ty,pos,after,g⟩ (tV (lV sz l cap i.toNat ys.length)):=
 .of_pure fun a w S _ ho hf=>by
  subst hsz
  subst hn
  have A:a.eval x=Y l cap xs.length:=D S a hf
  obtain⟨ad,c,V,h3,h4,h5,h5'⟩:=EE (ho.mem _ hm).1
  have h6:=eD.1 (hlo S a hf)
  obtain⟨lo',m,rfl,hm',h7,h8,rfl⟩:=fe h
  have hm2:m=xs.length:=by omega
  subst hm2
  have hlen:((xs.take xs.length).drop lo').length=xs.length-lo' :=by simp
  refine⟨_,?_,rfl⟩
  rw [V]at A
  have hr:(execOp a.eval ⟨dst,.slice t x (some lo) none none,ty,pos,after,g⟩).run E.P w= .ok (.value (.slice (if c=lo' then ad else ad.map (·.add (lo' *r.sz))) (xs.length-lo') (c-lo'))) w:=by
   simp [execOp,Instr.sliceAt,A,h6,Instr.slice,gP M,Instr.sliceBounds,nX (k:=k) (n:=(lo' :Int)) (y:=xs.length) (by omega) (by omega),ti.sizeOf]
  rw [hr,hlen,h4]
  cases l with
  |none=>
   obtain⟨rfl,rfl⟩:=h5 rfl
   have:lo' =0:=by simpa using h7
   subst this;rfl
  |some b=>
   rw [h5' (by simp)]
   unfold lV
   simp only [Ft,Eg,gE,ph]
   split<;>rfl
def wV{i:Int}(h:cE xs lo hi=some ys)(hy:fE ys i=some y):fE xs (lo+i)=some y/\0<=lo/\0<=i:=by
 obtain⟨l,m,rfl,rfl,A,V,rfl⟩:=fe h
 obtain⟨h0,h3⟩:=iu hy
 refine⟨?_,by omega,h0⟩
 obtain⟨j,rfl⟩: ∃j:Nat,i=j:=⟨i.toNat,by omega⟩
 rw [show((l:Int)+(j:Int))=((l+j:Nat):Int)from by omega,mK]
 rw [ul,Ft]at h3
 have hlt:l+j<m:=by
  have:=(pG.1 h3).1
  simp at this;omega
 rwa [zk hlt]at h3
def wy{e:TypeId}{i:Int}(M:E.P.underlying t=some (.slice e))(ti:TI E.P e sz bytes agg z)(hsz:r.sz=sz)(hm:jL mm r U l cap xs∈O)(hs:cE xs lo hi=some ys)(D:aC E.N G x (tV (lV sz l cap lo.toNat ys.length)))(hi' :aC E.N G ix (K (rI k) i))(hy:fE ys i=some y):
  bM E O G ⟨dst,.indexAddr t x ix,ty,pos,after,g⟩ (tV (cK l ((lo+i).toNat*sz+0))):=
 .of_pure fun a w S _ ho hf=>by
  subst hsz
  have A:a.eval x=lV r.sz l cap lo.toNat ys.length:=D S a hf
  have h3:a.eval ix= .int k i:=eD.1 (hi' S a hf)
  obtain⟨hxi,hl0,hi0⟩:=wV hs hy
  obtain⟨_,hx'⟩:=iu hxi
  obtain⟨b,cur,rfl,_,hle,_⟩:=n7 (ho.mem _ hm).1 hx'
  have hlt:i.toNat<ys.length:=(pG.1 (iu hy).2).1
  have hlt2:(lo+i).toNat<xs.length:=(pG.1 hx').1
  have hne: ¬(cap=lo.toNat):=by omega
  refine⟨_,?_,rfl⟩
  have hc:0<=i/\i<(ys.length:Int):=⟨hi0,by omega⟩
  have e1:(lo+i).toNat=lo.toNat+i.toNat:=by omega
  simp [execOp,A,h3,lV,hne,Instr.indexAt,asIntOf,gP M,hc,ti.sizeOf,gE,cK,ak,e1,v8]
def K6{e:TypeId}(M:E.P.underlying t=some (.slice e))(hm:jL mm r U l cap xs∈O)(hs:cE xs lo hi=some ys)(D:aC E.N G x (tV (lV sz l cap lo.toNat ys.length))):
  bM E O G ⟨dst,.call ⟨.builtin .len,#[x],#[t]⟩,ty,pos,after,g⟩ (K (rI .i64) (ys.length:Int)):=
 .of_pure fun a w S _ ho hf=>by
  have A:a.eval x=lV sz l cap lo.toNat ys.length:=D S a hf
  obtain⟨ad,c,h3⟩: ∃ad c,lV sz l cap lo.toNat ys.length= .slice ad ys.length c:=by
   cases l with
   |none=>
    obtain⟨_,V,_⟩:=(ho.mem _ hm).1
    have hx0:xs=[]:=sW V.1
    subst hx0
    obtain⟨l',m,_,_,_,h8,rfl⟩:=fe hs
    exact⟨none,0,by simp [lV]⟩
   |some b=>exact⟨_,_,rfl⟩
  refine⟨.int .i64 ys.length,?_,eD.2 rfl⟩
  simp [execOp,resolve,invoke,builtin,Builtin.len_,gP M,A,h3,goInt]
end
def R5(h:cE xs 0 j=some ys)(k:wk false r U l cap xs w S):wk false r U l cap ys w S:=by
 obtain⟨lo,m,hl,rfl,h7,h8,rfl⟩:=fe h
 have hl0:lo=0:=by omega
 subst hl0
 obtain⟨cells,A,V,h3⟩:=k
 have hlen:((xs.take m).drop 0).length=m:=by simp;omega
 have h4:pF r S (cells.take (m*r.sz)) (xs.take m):=by
  have e:xs=xs.take m++xs.drop m:=(rX _ _).symm
  rw [e]at V
  have:=(nH V).1
  rwa [show(xs.take m).length=m from by simp;omega]at this
 refine⟨cells.take (m*r.sz),?_,by simpa using h4,fun b H=>h3 b H⟩
 rw [hlen]
 cases l with
 |none=>
  obtain⟨g1,g2⟩:=A
  exact⟨by omega,by rw [g2];simp⟩
 |some b=>
  obtain⟨cur,g1,g2,g3,g4,g5⟩:=A
  exact⟨cur,g1,by omega,g3,g4,by rw [<-g5,A2,xM (wL _ h8)]⟩
def St.cut(h:cE xs 0 j=some ys)(st:St E (fq r U l cap xs::O) G a w S):St E (fq r U l cap ys::O) G a w S:=
 st.own_map fun ho=>⟨⟨R5 h ho.1.1,ho.1.2⟩,ho.2.1,ho.2.2⟩
def GJ(h:cE xs 0 j=some ys)(k:RG E ops aF rest (fq r U l cap ys::O) G):RG E ops aF rest (fq r U l cap xs::O) G:=fun a w S st=>k a w S (st.cut h)
def AT.cut(h:cE xs 0 j=some ys)(k:AT E aF e (fq r U l cap ys::O) G):AT E aF e (fq r U l cap xs::O) G:=fun a w S st=>k a w S (st.cut h)
def LG.cut(h:cE xs 0 j=some ys)(k:LG E aF c (fq r U l cap ys::O) G):LG E aF c (fq r U l cap xs::O) G:=fun a w S st=>k a w S (st.cut h)
end

variable{x0 x1 x10 x11 x12 x2 x3 x4 x5 x6 x7 x8 x9:OE}
section
def qX{O:List OE}(h:cH base B w S (x0::x1::x2::x3::x4::x5::O)):cH base B w S (x5::x0::x1::x2::x3::x4::O):=
 (kN h qY (fun f hf=>by simp only [lK]at hf ⊢;rcases hf with h|h|h|h|h|h<;>simp [h])).swap
def An(h:RG E ops aF rest (x5::x0::x1::x2::x3::x4::O) G):RG E ops aF rest (x0::x1::x2::x3::x4::x5::O) G:=fun a w S st=>h a w S (st.own_map qX)
def ew(h:AT E aF e (x5::x0::x1::x2::x3::x4::O) G):AT E aF e (x0::x1::x2::x3::x4::x5::O) G:=fun a w S st=>h a w S (st.own_map qX)
def v7(h:LG E aF c (x5::x0::x1::x2::x3::x4::O) G):LG E aF c (x0::x1::x2::x3::x4::x5::O) G:=fun a w S st=>h a w S (st.own_map qX)
def qW{O:List OE}(h:cH base B w S (x0::x1::x2::x3::x4::x5::x6::O)):cH base B w S (x6::x0::x1::x2::x3::x4::x5::O):=
 (kN h qX (fun f hf=>by simp only [lK]at hf ⊢;rcases hf with h|h|h|h|h|h|h<;>simp [h])).swap
def Fi(h:RG E ops aF rest (x6::x0::x1::x2::x3::x4::x5::O) G):RG E ops aF rest (x0::x1::x2::x3::x4::x5::x6::O) G:=fun a w S st=>h a w S (st.own_map qW)
def Fo(h:CG E aF c (x6::x0::x1::x2::x3::x4::x5::O) G):CG E aF c (x0::x1::x2::x3::x4::x5::x6::O) G:=fun a w S st=>h a w S (st.own_map qW)
def Au(h:AT E aF e (x6::x0::x1::x2::x3::x4::x5::O) G):AT E aF e (x0::x1::x2::x3::x4::x5::x6::O) G:=fun a w S st=>h a w S (st.own_map qW)
def xC{O:List OE}(h:cH base B w S (x0::x1::x2::x3::x4::x5::x6::x7::O)):cH base B w S (x7::x0::x1::x2::x3::x4::x5::x6::O):=
 (kN h qW (fun f hf=>by simp only [lK]at hf ⊢;rcases hf with h|h|h|h|h|h|h|h<;>simp [h])).swap
def Fq(h:AT E aF e (x7::x0::x1::x2::x3::x4::x5::x6::O) G):AT E aF e (x0::x1::x2::x3::x4::x5::x6::x7::O) G:=fun a w S st=>h a w S (st.own_map xC)
def tS{O:List OE}(h:cH base B w S (x0::x1::x2::x3::x4::x5::x6::x7::x8::O)):cH base B w S (x8::x0::x1::x2::x3::x4::x5::x6::x7::O):=
 (kN h xC (fun f hf=>by simp only [lK]at hf ⊢;rcases hf with h|h|h|h|h|h|h|h|h<;>simp [h])).swap
def Ny(h:RG E ops aF rest (x8::x0::x1::x2::x3::x4::x5::x6::x7::O) G):RG E ops aF rest (x0::x1::x2::x3::x4::x5::x6::x7::x8::O) G:=fun a w S st=>h a w S (st.own_map tS)
def NO(h:AT E aF e (x8::x0::x1::x2::x3::x4::x5::x6::x7::O) G):AT E aF e (x0::x1::x2::x3::x4::x5::x6::x7::x8::O) G:=fun a w S st=>h a w S (st.own_map tS)
def tR{O:List OE}(h:cH base B w S (x0::x1::x2::x3::x4::x5::x6::x7::x8::x9::O)):cH base B w S (x9::x0::x1::x2::x3::x4::x5::x6::x7::x8::O):=
 (kN h tS (fun f hf=>by simp only [lK]at hf ⊢;rcases hf with h|h|h|h|h|h|h|h|h|h<;>simp [h])).swap
def NN(h:AT E aF e (x9::x0::x1::x2::x3::x4::x5::x6::x7::x8::O) G):AT E aF e (x0::x1::x2::x3::x4::x5::x6::x7::x8::x9::O) G:=fun a w S st=>h a w S (st.own_map tR)
def NB(h:LG E aF c (x9::x0::x1::x2::x3::x4::x5::x6::x7::x8::O) G):LG E aF c (x0::x1::x2::x3::x4::x5::x6::x7::x8::x9::O) G:=fun a w S st=>h a w S (st.own_map tR)
def pC{O:List OE}(h:cH base B w S (x0::x1::x2::x3::x4::x5::x6::x7::x8::x9::x10::O)):cH base B w S (x10::x0::x1::x2::x3::x4::x5::x6::x7::x8::x9::O):=
 (kN h tR (fun f hf=>by simp only [lK]at hf ⊢;rcases hf with h|h|h|h|h|h|h|h|h|h|h<;>simp [h])).swap
def Kl(h:RG E ops aF rest (x10::x0::x1::x2::x3::x4::x5::x6::x7::x8::x9::O) G):RG E ops aF rest (x0::x1::x2::x3::x4::x5::x6::x7::x8::x9::x10::O) G:=fun a w S st=>h a w S (st.own_map pC)
def ah(h:AT E aF e (x10::x0::x1::x2::x3::x4::x5::x6::x7::x8::x9::O) G):AT E aF e (x0::x1::x2::x3::x4::x5::x6::x7::x8::x9::x10::O) G:=fun a w S st=>h a w S (st.own_map pC)
def em(h:LG E aF c (x10::x0::x1::x2::x3::x4::x5::x6::x7::x8::x9::O) G):LG E aF c (x0::x1::x2::x3::x4::x5::x6::x7::x8::x9::x10::O) G:=fun a w S st=>h a w S (st.own_map pC)
def pB{O:List OE}(h:cH base B w S (x0::x1::x2::x3::x4::x5::x6::x7::x8::x9::x10::x11::O)):cH base B w S (x11::x0::x1::x2::x3::x4::x5::x6::x7::x8::x9::x10::O):=
 (kN h pC (fun f hf=>by simp only [lK]at hf ⊢;rcases hf with h|h|h|h|h|h|h|h|h|h|h|h<;>simp [h])).swap
def xA(h:RG E ops aF rest (x11::x0::x1::x2::x3::x4::x5::x6::x7::x8::x9::x10::O) G):RG E ops aF rest (x0::x1::x2::x3::x4::x5::x6::x7::x8::x9::x10::x11::O) G:=fun a w S st=>h a w S (st.own_map pB)
def bA(h:AT E aF e (x11::x0::x1::x2::x3::x4::x5::x6::x7::x8::x9::x10::O) G):AT E aF e (x0::x1::x2::x3::x4::x5::x6::x7::x8::x9::x10::x11::O) G:=fun a w S st=>h a w S (st.own_map pB)
def dO(h:LG E aF c (x11::x0::x1::x2::x3::x4::x5::x6::x7::x8::x9::x10::O) G):LG E aF c (x0::x1::x2::x3::x4::x5::x6::x7::x8::x9::x10::x11::O) G:=fun a w S st=>h a w S (st.own_map pB)
def vq{O:List OE}(h:cH base B w S (x0::x1::x2::x3::x4::x5::x6::x7::x8::x9::x10::x11::x12::O)):cH base B w S (x12::x0::x1::x2::x3::x4::x5::x6::x7::x8::x9::x10::x11::O):=
 (kN h pB (fun f hf=>by simp only [lK]at hf ⊢;rcases hf with h|h|h|h|h|h|h|h|h|h|h|h|h<;>simp [h])).swap
def xz(h:RG E ops aF rest (x12::x0::x1::x2::x3::x4::x5::x6::x7::x8::x9::x10::x11::O) G):RG E ops aF rest (x0::x1::x2::x3::x4::x5::x6::x7::x8::x9::x10::x11::x12::O) G:=fun a w S st=>h a w S (st.own_map vq)
def be(h:AT E aF e (x12::x0::x1::x2::x3::x4::x5::x6::x7::x8::x9::x10::x11::O) G):AT E aF e (x0::x1::x2::x3::x4::x5::x6::x7::x8::x9::x10::x11::x12::O) G:=fun a w S st=>h a w S (st.own_map vq)
end

def fV(h:xs.set i y=zs):zs.length=xs.length:=by rw [<-h,BT]
section
def iM(hl:m=n)(s:Nat)(hs:look G s=some (tV (Y l cap n)))(k:RG E ops aF rest O ((s,tV (Y l cap m))::G)):RG E ops aF rest O G:=by
 subst hl
 exact fun a w S st=>k a w S (st.cons (st.facts.at_ s _ hs))
end

def fg{o1 o2:Nat}{g1:α->β}{g2:β->γ}(A:g9 r o1 q g1)(V:g9 q o2 s g2)(H:Nat.ble (o2+s.sz) q.sz=true:=by rfl):g9 r (o1+o2) s (fun x=>g2 (g1 x)):=fun S cs x h=>by
 have h3:=V S _ _ (A S cs x h)
 have hb' :=pI H
 rwa [xT,A2,sR,xM (by omega)]at h3
def kq{o1 o2:Nat}{g1:α->β}{u1:α->β->α}{u2:β->γ->β}(A:g9 r o1 q g1)(k1:dW r o1 q u1)(k2:dW q o2 s u2)(H:Nat.ble (o2+s.sz) q.sz=true:=by rfl)(hc:Nat.ble (o1+q.sz) r.sz=true:=by rfl):
  dW r (o1+o2) s (fun x y=>u1 x (u2 (g1 x) y)):=fun S cs x ds y h hy=>by
 have hb' :=pI H
 have hc' :=pI hc
 have hl:=r.len h
 have h3:=k1 S cs x _ _ h (k2 S _ _ ds y (A S cs x h) hy)
 have e:cs.take (o1+o2)++ds++cs.drop (o1+o2+s.sz)=cs.take o1++(((cs.drop o1).take q.sz).take o2++ds++((cs.drop o1).take q.sz).drop (o2+s.sz))++cs.drop (o1+q.sz):=by
  rw [A2,xM (by omega),xT,sR,List.take_add,show o1+(o2+s.sz)=o1+o2+s.sz from by omega]
  simp only [gQ]
  congr 3
  have e2:cs.drop (o1+q.sz)=(cs.drop (o1+o2+s.sz)).drop (q.sz-(o2+s.sz)):=by rw [sR];congr 1;omega
  rw [e2,rX]
 rw [e];exact h3

def ek(P:Program)(f:FuncId)(ts:List Ty)(O1:List OE){ι:Type}(t:ι->Ty)(O2:ι->List OE):Prop:=
 ∀w S vs,kb w S->wl S ts vs->cH 0 rp w S O1->Calls P f vs.toArray w fun en w' => ∃i v S',en= .returned v/\(t i).p S' v/\je (fun k=> ∃f∈O1,f.fp k) w S w' S' /\kb w' S' /\cH 0 rp w' S' (O2 i)/\ ∀k,(∃f∈O2 i,f.fp k)->(∃f∈O1,f.fp k)\/w.heap.size<=k
def RT(E:En)(O1:List OE){ι:Type}(t:ι->Ty)(O2:ι->List OE):Ending->World->Prop:=fun en w' =>
 ∃i v S',en= .returned v/\(t i).p S' v/\je E.B E.w0 E.S0 w' S' /\kb w' S' /\cH 0 rp w' S' (O2 i)/\ ∀k,(∃f∈O2 i,f.fp k)->(∃f∈O1,f.fp k)\/E.w0.heap.size<=k
def Lo(O1:List OE):Nat->Prop:=fun k=> ∃f∈O1,f.fp k
def ek.of{t:ι->Ty}(hf:P.funcs[f]? =some fn)(H:fn.body=some c)(hN:fn.ntmps=N)(hn:Nat.ble ts.length N=true)(h: ∀w0 S0,CG ⟨P,⟨N,[]⟩,Lo O1,w0,S0,none⟩ (bodyPost P fn (RT ⟨P,⟨N,[]⟩,Lo O1,w0,S0,none⟩ O1 t O2)) c O1 (wB 0 ts)):ek P f ts O1 t O2:=by
 subst hN
 intro w S vs hs hv ho
 exact tM.1 (callsIn_of_wp (F:=fw none) (n:=0) hf H trivial (h w S _ w S ⟨je.refl _ _ _,hs,vY ho fun f hf k hk=> .inr ⟨f,hf,hk⟩,xr hv _ (pI hn)⟩))
def LE{t:ι->Ty}{v:Value}(st:St E O G a w S)(hB:E.B=Lo O1)(i:ι)(hO:O=O2 i)(hv:(t i).p S v):RT E O1 t O2 (.returned v) w:=by
 subst hO
 refine⟨i,v,S,rfl,hv,st.ext,st.sat,st.own.weak,fun k ⟨f,hf,hk⟩=>?_⟩
 rcases(cH.mem st.own f hf).2 k hk with h|h
 ·exact .inr h
 ·rw [hB]at h;exact .inl h
section
variable{t:ι->Ty}
def dK{k:Nat}{u:Ty}(hr:fn.results= #[.tmp k])(i:ι)(hO:O=O2 i)(hk:look G k=some u)(hu: ∀S v,u.p S v->(t i).p S v):
  AT ⟨P,⟨N,[]⟩,Lo O1,w0,S0,none⟩ (bodyPost P fn (RT ⟨P,⟨N,[]⟩,Lo O1,w0,S0,none⟩ O1 t O2)) .ret O G:=fun _ _ S st=>
 ⟨st.facts.defers,_,pN P fn k hr _ _,LE st rfl i hO (hu S _ (st.facts.at_ k u hk))⟩
end
def cH.join: ∀{O1 O2:List OE},cH base B w S O1->cH base B w S O2->(∀e∈O1,∀f∈O2,e.apart f)->cH base B w S (O1++O2)
 |[],_,_,h,_=>h
 |e::O1,O2,⟨A,V,h3⟩,h,ha=>⟨A,fun f hf=>(uu.1 hf).elim (V f) (ha e (ln ..) f),cH.join h3 h fun g hg f hf=>ha g (lH _ hg) f hf⟩
section
variable{ty:TypeId}
def St.turn{Or O2:List OE}(st:St E (O1++Or) G a w S)(D:je (fun k=> ∃f∈O1,f.fp k) w S w' S')(hs:kb w' S')(ho:cH 0 rp w' S' O2)(hn: ∀k,(∃f∈O2,f.fp k)->(∃f∈O1,f.fp k)\/w.heap.size<=k):St E (O2++Or) G a w' S' :=by
 obtain⟨A,V,h3⟩:=nM st.own
 have hbl:=st.base_le
 refine⟨st.ext.step D (fun b ⟨f,hf,H⟩=>(cH.mem A f hf).2 b H),hs,cH.join (vY ho fun f hf k hk=>?_) (V.ext D fun f hf b H ⟨g,hg,hgb⟩=>h3 g hg f hf b hgb H) (fun e he f hf b heb hfb=>?_),st.facts.mono D.keep⟩
 ·rcases hn k ⟨f,hf,hk⟩with⟨g,hg,hgk⟩|h
  ·exact(cH.mem A g hg).2 k hgk
  ·exact .inl (lp hbl h)
 ·rcases hn b ⟨e,he,heb⟩with⟨g,hg,hgb⟩|h
  ·exact h3 g hg f hf b hgb hfb
  ·have:=f.here (cH.mem V f hf).1 b hfb
   omega
def y8{xs:List Operand}(O1 Or:List OE){t:ι->Ty}(hO:O=O1++Or)(hc:aj E.P f=true)(hs:ek E.P f ts O1 t O2)(D:iA E.N G xs ts)(hd:Nat.blt d E.N.n=true)(k: ∀i,RG E ops aF rest (O2 i++Or) ((d,t i)::G)):
  RG E ops aF (⟨some d,.call ⟨.value (.func f),xs.toArray,ats⟩,ty,pos,after,none⟩::rest) O G:= .of rfl fun a w S st=>by
 subst hO
 have hr:(execOp a.eval ⟨some d,.call ⟨.value (.func f),xs.toArray,ats⟩,ty,pos,after,none⟩).run E.P w= .ok (.enter f (xs.map a.eval).toArray) w:=by
  simp [execOp,resolve,Act.eval,Deferred.ofValue,invoke,hZ hc]
 refine⟨fun c h=>(by cases h),?_⟩
 rw [hr]
 refine(hs w S _ st.sat (D.tys st.facts) (nM st.own).1.weak).mono fun en w' ⟨i,v,S',he,hv,A,V,h3,h4⟩=>⟨_,he,?_⟩;exact k i _ _ S' ((st.turn A V h3 h4).put hd hv)
end

structure OI where
 h:Nat->Option Nat×Nat:=fun _=>(none,0)
 os:List (Option Nat×Nat):=[]
 fp:Nat->Prop:=rp
 v:Value:=undef
 ng:Nat->(Option Nat×Nat)×(Nat->Option Nat×Nat):=fun _=>((none,0),fun _=>(none,0))
 oss:Nat->List (Option Nat×Nat):=fun _=>[]
def nQ:OI:={}
def oi(l:Option Nat)(c:Nat):OI:={h:=fun _=>(l,c)}
def EffOK(E:En)(O:List OE)(need:kP)(o:Oper)(post:OI->List OE)(t:OI->Ty):Prop:=
 ∀a w S,kb w S->cH E.base E.B w S O->cm E.N S a need->E.base<=w.heap.size->
  HG E.P o a w (fun a' w' => ∃v S' x,a' =a.put o.dst v/\je (Lo O) w S w' S' /\kb w' S' /\cH E.base E.B w' S' (post x)/\(t x).p S' v)
variable{post:OI->List OE}
section
variable{ty:TypeId}
def J3{t' :TypeId}{y:Operand}{u:OI->Ty}(ti:TI E.P T sz bytes agg z)(hsz:r.sz=sz)(hz:Nat.beq z.length sz=true)(h0:Nat.blt 0 sz=true)(h128:Nat.ble bytes 2048=true)(M:E.P.underlying t=some (.slice T))(D:aC E.N G x (tV (Y l cap n)))(hy: ∀a w S,kb w S->cm E.N S a G-> ∃news,Src E.P r.sz t' (a.eval y) ys.length news w/\pF r S news ys)(happ:lX xs ys=some zs)(hu: ∀l' cap' w0 S,(jL mm r T l' cap' zs).p w0 S->(u (oi l' cap')).p S (Y l' cap' zs.length))(hn:n=xs.length):
  EffOK E (jL mm r T l cap xs::O) G ⟨some d,.call ⟨.builtin .append,#[x,y],#[t,t']⟩,ty,pos,after,g⟩ (fun i=>jL mm r T (i.h 0).1 (i.h 0).2 zs::O) u:=fun a w S hs ho hf H=>by
 subst hn
 have A:a.eval x=Y l cap xs.length:=D S a hf
 obtain⟨news,V,h3⟩:=hy a w S hs hf
 obtain⟨l',cap',w',S',hr,hext,hsat,hh,hnew⟩:=uM (ty:=ty) ti hsz hz h0 h128 M hs ho.1 H V h3 happ
 have hrun:(execOp a.eval ⟨some d,.call ⟨.builtin .append,#[x,y],#[t,t']⟩,ty,pos,after,g⟩).run E.P w= .ok (.value (Y l' cap' zs.length)) w' :=by
  simp [execOp,resolve,invoke,builtin,A,hr]
 refine⟨fun c h=>(by cases h),?_⟩
 rw [hrun]
 refine⟨_,S',oi l' cap',rfl,hext.more fun b H=>⟨_,ln ..,H⟩,hsat,⟨hh,fun f hf b H hfb=>?_,ho.2.2.ext hext fun f hf b H hbl=>ho.2.1 f hf b hbl H⟩,hu l' cap' w' S' hh.1⟩
 rcases hnew b H with h|h
 ·exact ho.2.1 f hf b h hfb
 ·have:=f.here (cH.mem ho.2.2 f hf).1 b hfb
  omega
def jY{t' :TypeId}{y:Operand}(ti:TI E.P T sz bytes agg z)(hsz:r.sz=sz)(hz:Nat.beq z.length sz=true)(h0:Nat.blt 0 sz=true)(h128:Nat.ble bytes 2048=true)(M:E.P.underlying t=some (.slice T))(ht' :t' =t)(D:aC E.N G x (tO r l cap xs))(hy:aC E.N G y (K (eF r) ys))(happ:lX xs ys=some zs):
  EffOK E (Z r T l cap xs::O) G ⟨some d,.call ⟨.builtin .append,#[x,y],#[t,t']⟩,ty,pos,after,g⟩ (fun i=>Z r T (i.h 0).1 (i.h 0).2 zs::O) (fun i=>tO r (i.h 0).1 (i.h 0).2 zs):=by
 subst ht'
 exact J3 ti hsz hz h0 h128 M (wT D) (fun a w S hs hf=>uF M hs (hy S a hf)) happ (fun _ _ _ _ h=>⟨rfl,kp h⟩) rfl
def Nk{xs:List Operand}{u:OI->Ty}(hc:aj E.P f=true)(hs:jG E.P f ts mm r T ys)(D:iA E.N G xs ts)(hu: ∀l cap w0 S,(jL mm r T l cap ys).p w0 S->(u (oi l cap)).p S (Y l cap ys.length)):
  EffOK E O G ⟨some d,.call ⟨.value (.func f),xs.toArray,ats⟩,ty,pos,after,g⟩ (fun i=>jL mm r T (i.h 0).1 (i.h 0).2 ys::O) u:=fun a w S hsat ho hf H=>by
 have hr:(execOp a.eval ⟨some d,.call ⟨.value (.func f),xs.toArray,ats⟩,ty,pos,after,g⟩).run E.P w= .ok (.enter f (xs.map a.eval).toArray) w:=by
  simp [execOp,resolve,Act.eval,Deferred.ofValue,invoke,hZ hc]
 refine⟨fun c h=>(by cases h),?_⟩
 rw [hr]
 exact(hs w S _ hsat (D.tys hf)).mono fun e w' ⟨l,cap,S',he,A,V,h3⟩=>⟨_,he,_,S',oi l cap,rfl,A.more fun _ H=>H.elim,V,p9 ho A h3.1 (fun b H=>(h3.2 b H).resolve_right id) H,hu l cap w' S' h3.1⟩
def cH.turn{Or O2:List OE}(h:cH base B w S (O1++Or))(hbl:base<=w.heap.size)(D:je (Lo O1) w S w' S')(ho:cH 0 rp w' S' O2)(hn: ∀k,(∃f∈O2,f.fp k)->(∃f∈O1,f.fp k)\/w.heap.size<=k):cH base B w' S' (O2++Or):=by
 obtain⟨A,V,h3⟩:=nM h
 refine cH.join (vY ho fun f hf k hk=>?_) (V.ext D fun f hf b H ⟨g,hg,hgb⟩=>h3 g hg f hf b hgb H) (fun e he f hf b heb hfb=>?_)
 ·rcases hn k ⟨f,hf,hk⟩with⟨g,hg,hgk⟩|h
  ·exact(cH.mem A g hg).2 k hgk
  ·exact .inl (lp hbl h)
 ·rcases hn b ⟨e,he,heb⟩with⟨g,hg,hgb⟩|h
  ·exact h3 g hg f hf b hgb hfb
  ·have:=f.here (cH.mem V f hf).1 b hfb
   omega
def iH{xs:List Operand}(O1 Or:List OE){t:OI->Ty}{O2:OI->List OE}(hO:O=O1++Or)(hc:aj E.P f=true)(hs:ek E.P f ts O1 t O2)(D:iA E.N G xs ts)(hpost: ∀i,O2 i++Or=post i):
  EffOK E O G ⟨some d,.call ⟨.value (.func f),xs.toArray,ats⟩,ty,pos,after,g⟩ post t:=fun a w S hsat ho hf H=>by
 subst hO
 obtain rfl:(fun i=>O2 i++Or)=post:=funext hpost
 have hr:(execOp a.eval ⟨some d,.call ⟨.value (.func f),xs.toArray,ats⟩,ty,pos,after,g⟩).run E.P w= .ok (.enter f (xs.map a.eval).toArray) w:=by
  simp [execOp,resolve,Act.eval,Deferred.ofValue,invoke,hZ hc]
 refine⟨fun c h=>(by cases h),?_⟩
 rw [hr]
 exact(hs w S _ hsat (D.tys hf) (nM ho).1.weak).mono fun en w' ⟨i,v,S',he,hv,A,V,h3,h4⟩=>⟨_,he,v,S',i,rfl,A.more fun b ⟨f,hf,H⟩=>⟨f,BQ _ hf,H⟩,V,cH.turn ho H A h3 h4,hv⟩
def mW{op:Op}{t:OI->Ty}(h:EffOK E O G ⟨some d,op,ty,pos,after,none⟩ post t)(hd:Nat.blt d E.N.n=true)(k: ∀x:OI,RG E ops aF rest (post x) ((d,t x)::G)):RG E ops aF (⟨some d,op,ty,pos,after,none⟩::rest) O G:= .of rfl fun a w S st=>
 mH (fun a' w' ⟨v,S',x,ha,D,hs,ho,hv⟩=>by
  subst ha
  exact k x _ _ S' ⟨st.ext.step D fun b ⟨f,hf,H⟩=>(cH.mem st.own f hf).2 b H,hs,ho,(st.facts.mono D.keep).put hd hv⟩) (h a w S st.sat st.own st.facts st.base_le)
end

def upd(σ:Nat->OI)(k:Nat)(x:OI):Nat->OI:=fun j=>bif Nat.beq j k then x else σ j
def FF(σ:Nat->OI){k j:Nat}(x:OI)(h:j≠k):upd σ k x j=σ j:=by
 have:Nat.beq j k=false:=by
  cases H:Nat.beq j k with
  |false=>rfl
  |true=>exact absurd (nk H) h
 simp [upd,this]
structure NE where
 slot:Nat
 ty:(Nat->OI)->Ty
 src:Option Nat
def WE(G:kP)(ts:List (OI->Ty))(n:NE):Prop:=
 match n.src with
 |some j=> ∀σ,(ts[j]?).map (fun f=>f (σ j))=some (n.ty σ)
 |none=> ∀σ,look G n.slot=some (n.ty σ)
def LP(G:kP)(ts:List (OI->Ty)):List NE->Prop
 |[]=>True
 |n::l=>WE G ts n/\LP G ts l
def LP.mem{ts:List (OI->Ty)}: ∀{l:List NE},LP G ts l-> ∀n∈l,WE G ts n
 |_::_,⟨h,_⟩,_,.head _=>h
 |_::_,⟨_,h⟩,_,.tail _ hm=>LP.mem h _ hm
def ju(E:En)(ops:Array Oper)(O:List OE)(need:kP)(o:Oper)(post:OI->List OE)(t:OI->Ty):Prop:=
 ∀a w S,kb w S->cH E.base E.B w S O->cm E.N S a need->E.base<=w.heap.size->
  if Region.wanted o (yielded ops a.tmps)then HG E.P o a w (fun a' w' => ∃v S' x,a' =a.put o.dst v/\je (Lo O) w S w' S' /\kb w' S' /\cH E.base E.B w' S' (post x)/\(t x).p S' v)
  else∃x,cH E.base E.B w S (post x)/\(t x).p S undef
def bJ{need:kP}{t:OI->Ty}(hg:o.guard=none)(h:EffOK E O need o post t):ju E ops O need o post t:=fun a w S hs ho hf H=>by
 have:Region.wanted o (yielded ops a.tmps)=true:=by unfold Region.wanted;rw [hg]
 rw [this,bK rfl]
 exact h a w S hs ho hf H
def fH(es:List Bool)(i:Nat):Nat:=(es.take i).countP (· ==true)
def Kb(L:List Oper)(es:List Bool):Bool:=(List.range es.length).all fun i=>(List.range i).all fun j=> !((es[i]?).getD false&&(es[j]?).getD false)||lM L L.length i j
structure DJE(E:En)(G:kP)(l:List Oper)(ts:List (OI->Ty))(Om:Nat->(Nat->OI)->List OE)(es:List Bool)(done:Array Bool)(a:Act)(w:World)(S:SH)(σ:Nat->OI)(c:Nat):Prop where
 ext:je E.B E.w0 E.S0 w S
 sat:kb w S
 own:cH E.base E.B w S (Om c σ)
 size:a.tmps.size=E.N.n
 defers:a.defers=E.N.ds
 dsz:done.size=l.length
 down: ∀j o,l[j]? =some o->done.getD j false=true-> ∀e∈o.after,Region.binds .any e=true->done.getD e.on false=true
 old: ∀k t,look G k=some t->(∀j o,l[j]? =some o->done.getD j false=true->o.dst≠some k)->t.p S (a.tmps.getD k undef)
 new: ∀j o d f,l[j]? =some o->done.getD j false=true->o.dst=some d->ts[j]? =some f->(f (σ j)).p S (a.tmps.getD d undef)
 chain: ∀k,es[k]? =some true->(done.getD k false=true↔fH es k<c)
variable{es:List Bool}
def Dw: ∀{i j:Nat},i<j->es[i]? =some true->fH es i<fH es j:=by
 induction es with
 |nil=>intro i j _ h;simp at h
 |cons e es ih=>
  intro i j hij h
  cases j with
  |zero=>omega
  |succ j=>
   cases i with
   |zero=>simp at h;subst h;simp [fH]
   |succ i=>
    have:=ih (i:=i) (j:=j) (by omega) (by simpa using h)
    cases e<;>simp [fH]at this ⊢ <;>omega
def tQ: ∀{c k:Nat},c<fH es k-> ∃i,i<k/\es[i]? =some true/\fH es i=c:=by
 induction es with
 |nil=>intro c k h;simp [fH]at h
 |cons e es ih=>
  intro c k h
  cases k with
  |zero=>simp [fH]at h
  |succ k=>
   cases e with
   |false=>
    obtain⟨i,A,V,h3⟩:=ih (c:=c) (k:=k) (by simpa [fH] using h)
    exact⟨i+1,by omega,by simpa using V,by simpa [fH] using h3⟩
   |true=>
    cases c with
    |zero=>exact⟨0,by omega,rfl,by simp [fH]⟩
    |succ c=>
     obtain⟨i,A,V,h3⟩:=ih (c:=c) (k:=k) (by simp [fH]at h ⊢;omega)
     exact⟨i+1,by omega,by simpa using V,by simp [fH]at h3 ⊢;omega⟩
section
variable{ts:List (OI->Ty)}{Om:Nat->(Nat->OI)->List OE}
end

section
variable{ty:TypeId}
end

def ED{α:Type}{r:Rp α}{x:α}{z:List Value}(D: ∀S,r.rc S z x)(S:SH): ∀n:Nat,pF r S (List.replicate n z).flatten (List.replicate n x)
 |0=>rfl
 |n+1=>⟨z,_,by rw [List.replicate_succ,List.flatten_cons],D S,ED D S n⟩
def CD(z:List Value):(List.range z.length).map (fun i=>z[i%z.length]?.getD default)=z:=by
 apply GR
 intro k
 rcases lI k z.length with h|h
 ·rw [Ei,List.getElem?_range h]
  simp [Nat.mod_eq_of_lt h,h]
 ·rw [El (by simpa using h),El h]
def zn(z:List Value)(n:Nat):(Builtin.zeroCells z.toArray n).toList=(List.replicate n z).flatten:=by
 unfold Builtin.zeroCells
 simp
 induction n with
 |zero=>simp
 |succ n ih=>
  rw [List.replicate_succ,List.flatten_cons,<-ih,Nat.succ_mul,Nat.add_comm,List.range_add,List.map_append,CD,List.map_map]
  congr 1
  apply List.map_congr_left
  intro i _
  simp
section
variable{ty:TypeId}
def flat_len(h:z.length=sz)(n:Nat):(List.replicate n z).flatten.length=n*sz:=by
 simp [h]
def Nz{x:α}{y:Operand}(ti:TI E.P T sz bytes agg z)(hsz:r.sz=sz)(hz:Nat.beq z.length sz=true)(M:E.P.underlying t=some (.slice T))(D: ∀S,r.rc S z x)(hone:z.all (·.oneCell')=true)(hs:cE xs lo (xs.length:Int)=some ys)(hy:aC E.N G y (tV (lV sz l cap lo.toNat ys.length)))(hzs:xs.take lo.toNat++List.replicate ys.length x=zs)(k:RG E ops aF rest (fq r T l cap zs::O) G):
  RG E ops aF (⟨none,.call ⟨.builtin .clear,#[y],#[t]⟩,ty,pos,after,none⟩::rest) (fq r T l cap xs::O) G:= .of rfl fun a w S st=>by
 subst hsz
 subst hzs
 obtain⟨i,zv,hi,A,V,h3,h4⟩:=ti.get
 have hyv:a.eval y=lV r.sz l cap lo.toNat ys.length:=hy S a st.facts
 have hz2:z.length=r.sz:=nk hz
 obtain⟨lo',m,rfl,hm,h5,h6,rfl⟩:=fe hs
 have hm' :m=xs.length:=by omega
 subst hm'
 rw [xU]at hyv k
 rw [Ft]at hyv k
 by_cases hnil:xs.drop lo' =[]
 ·have hlo:xs.length<=lo' :=GV.1 hnil
  rw [hnil]at hyv k
  have e1:xs.take lo' ++List.replicate ([]:List α).length x=xs:=by simp [pJ hlo]
  rw [e1]at k
  have hrun:(execOp a.eval ⟨none,.call ⟨.builtin .clear,#[y],#[t]⟩,ty,pos,after,none⟩).run E.P w= .ok (.value (.tuple #[])) w:=by
   cases l<;>simp [execOp,resolve,invoke,builtin,Builtin.clear_,gP M,hyv,lV]
  refine⟨fun c h=>(by cases h),?_⟩
  rw [hrun]
  exact k _ _ S st
 ·obtain⟨⟨cells,hraw,hrc,hno⟩,hbase⟩:=st.own.1
  have hlt:lo' <xs.length:=by
   rcases lI lo' xs.length with h|h
   ·exact h
   ·exact absurd (KA h) hnil
  cases l with
  |none=>have:=hraw.1;omega
  |some b=>
   obtain⟨cur,g1,g2,g3,g4,g5⟩:=hraw
   have hno' :S b=none:=hno b rfl
   have hne: ¬(cap=lo'):=by omega
   have hld:(xs.drop lo').length=xs.length-lo' :=by simp
   have hfl:=flat_len hz2 (xs.length-lo')
   have hones: ∀u∈(List.replicate (xs.length-lo') z).flatten,u.oneCell' =true:=by
    intro u hu
    obtain⟨q,hq,hu⟩:=List.mem_flatten.1 hu
    rw [(List.mem_replicate.1 hq).2]at hu
    exact lY.1 hone u hu
   have hmul:xs.length*r.sz<=cur.size:=by rw [g4];exact wL _ g2
   have hfit:lo' *r.sz+(xs.length-lo')*r.sz=xs.length*r.sz:=by rw [<-v8];congr 1;omega
   have hst:=run_storeCells_at E.P b (lo' *r.sz) T (List.replicate (xs.length-lo') z).flatten 0 cur w g1 (by omega) hones
   simp only [BS]at hst
   have hrun:(execOp a.eval ⟨none,.call ⟨.builtin .clear,#[y],#[t]⟩,ty,pos,after,none⟩).run E.P w= .ok (.value (.tuple #[])) (w.setRow b (cur.toList.take (lo' *r.sz)++(List.replicate (xs.length-lo') z).flatten++cur.toList.drop (lo' *r.sz+(List.replicate (xs.length-lo') z).flatten.length)).toArray):=by
    have e1: ∃q,xs.length-lo' =q+1:=⟨xs.length-lo' -1,by omega⟩
    obtain⟨q,hq⟩:=e1
    have e2:a.eval y= .slice (some ⟨b,lo' *r.sz,none⟩) (q+1) (cap-lo'):=by rw [hyv,hld,hq];simp [lV,hne]
    rw [hq]at hst ⊢
    simp [execOp,resolve,invoke,builtin,Builtin.clear_,gP M,e2,zeroValue,typeInfo,hi,h3,h4,zn,hst]
   refine⟨fun c h=>(by cases h),?_⟩
   rw [hrun]
   have hset:=setRow_heap w b cur (cur.toList.take (lo' *r.sz)++(List.replicate (xs.length-lo') z).flatten++cur.toList.drop (lo' *r.sz+(List.replicate (xs.length-lo') z).flatten.length)).toArray T _ g1
   have hl2:(xs.take lo' ++List.replicate (xs.drop lo').length x).length=xs.length:=by simp;omega
   have hsp:pF r S (cells.take (lo' *r.sz)) (xs.take lo'):=by
    have e:xs=xs.take lo' ++xs.drop lo' :=(rX _ _).symm
    rw [e]at hrc
    have:=(nH hrc).1
    rwa [show(xs.take lo').length=lo' from by simp;omega]at this
   have hcl:((cur.toList.take (lo' *r.sz)++(List.replicate (xs.length-lo') z).flatten++cur.toList.drop (lo' *r.sz+(List.replicate (xs.length-lo') z).flatten.length)).toArray).toList.take ((xs.take lo' ++List.replicate (xs.drop lo').length x).length*r.sz)=cells.take (lo' *r.sz)++(List.replicate (xs.length-lo') z).flatten:=by
    rw [hl2,<-g5,A2,xM (wL _ (by omega))]
    have hlen1:(cur.toList.take (lo' *r.sz)++(List.replicate (xs.length-lo') z).flatten).length=xs.length*r.sz:=by
     rw [mY,hfl,zf,DP,xM (by omega)];exact hfit
    rw [<-hlen1,List.take_left]
   obtain⟨q1,q2,q3⟩:=kw (O:=O) st.sat (fq r T (some b) cap xs) (fq r T (some b) cap (xs.take lo' ++List.replicate (xs.drop lo').length x)) st.own (fun k=>⟨fun h=>(nO h).symm,fun h=>by rw [h];rfl⟩) (fun k=>⟨fun h=>(nO h).symm,fun h=>by rw [h];rfl⟩)
    (w' :=w.setRow b (cur.toList.take (lo' *r.sz)++(List.replicate (xs.length-lo') z).flatten++cur.toList.drop (lo' *r.sz+(List.replicate (xs.length-lo') z).flatten.length)).toArray) ⟨rfl,rfl,rfl,by simp [World.setRow],eX _⟩ (fun k hk=>setRow_other w b k _ hk)
    ⟨cells.take (lo' *r.sz)++(List.replicate (xs.length-lo') z).flatten,⟨_,hset,by rw [hl2];exact g2,g3,by simp only [BV,mY,zf,xV,DP];omega,hcl⟩,by rw [hld];exact qF hsp (ED D S _),fun k hk=>by rw [<-nO hk];exact hno'⟩ hno'
   ·exact k _ _ S ⟨st.ext.step q1 (fun c hc=>hbase c (by rw [hc];rfl)),q2,q3,st.facts⟩
end

def n8{α:Type}(r:Rp α)(n:Nat):Rp (List α) where
 sz:=n*r.sz
 agg:=true
 rc:=fun S cs xs=>xs.length=n/\pF r S cs xs
 mono:=fun h ⟨A,V⟩=>⟨A,pr h V⟩
 len:=fun⟨A,V⟩=>by rw [kl V,A]
 one:=fun⟨_,V⟩=>ym V
 sc:=fun h=>by cases h
section
section
variable{ty:TypeId}
def m6{e:TypeId}{i:Int}(M:E.P.underlying t=some (.array n e))(ti:TI E.P e sz bytes agg z)(hm:bx (n8 r n) T b xs∈O)(D:aC E.N G x (tV (ak b 0)))(hi:aC E.N G ix (K (rI k) i))(hy:fE xs i=some y):
  bM E O G ⟨dst,.indexAddr t x ix,ty,pos,after,g⟩ (tV (ak b (i.toNat*sz))):=
 .of_pure fun a w S _ ho hf=>by
  have A:a.eval x=ak b 0:=D S a hf
  have h5:a.eval ix= .int k i:=eD.1 (hi S a hf)
  obtain⟨⟨_,c,_,h4,_⟩,_⟩:=ho.mem _ hm
  obtain⟨h0,hy'⟩:=iu hy
  have hlt:i.toNat<xs.length:=(pG.1 hy').1
  have hc:0<=i/\i<(n:Int):=⟨h0,by omega⟩
  refine⟨_,?_,rfl⟩
  simp [execOp,A,h5,ak,Instr.indexAt,asIntOf,gP M,Instr.sureAddr,hc,ti.sizeOf,gE]
end
def QV{i:Int}(hy:fE xs i=some y){cs:List Value}(h:(n8 r n).rc S cs xs):r.rc S ((cs.drop (i.toNat*r.sz)).take r.sz) y:=yn h.2 (iu hy).2
def CF{i:Int}{p:Operand}{ty:TypeId}(ti:TI E.P U sz bytes agg z)(hsz:r.sz=sz)(hag:r.agg=agg)(hm:bx (n8 r n) T b xs∈O)(hy:fE xs i=some y)(hp:aC E.N G p (tV (ak b (i.toNat*r.sz)))):bM E O G ⟨dst,.load U p,ty,pos,after,g⟩ (K r y):=
 .of_pure fun a w S _ ho hf=>by
  have A:a.eval p=ak b (i.toNat*r.sz):=hp S a hf
  obtain⟨⟨_,cur,h5,h6⟩,_⟩:=ho.mem _ hm
  have h7:=QV hy h6
  refine⟨_,?_,_,rfl,h7⟩
  simp [execOp,A,ak,Instr.loadAt,Instr.sureAddr,jw ti h5 hsz hag h7]
def Nw{v:α}{i:Int}{p:Operand}{ty:TypeId}(ti:TI E.P U sz bytes agg z)(hsz:r.sz=sz)(hy:fE xs i=some y)(hz:xs.set i.toNat v=zs)(hp:aC E.N G p (tV (ak b (i.toNat*r.sz))))(hv:aC E.N G x (K r v))(k:RG E ops aF rest (bx (n8 r n) T b zs::O) G):RG E ops aF (⟨none,.store U p x,ty,pos,after,none⟩::rest) (bx (n8 r n) T b xs::O) G:= .of rfl fun a w S st=>by
 subst hz
 have A:a.eval p=ak b (i.toNat*r.sz):=hp S a st.facts
 obtain⟨ds,V,h3⟩:=hv S a st.facts
 obtain⟨⟨hno,cur,h5,h6⟩,_⟩:=st.own.1
 obtain⟨h0,hy'⟩:=iu hy
 have hlt:i.toNat<xs.length:=(pG.1 hy').1
 have hl:=kl h6.2
 simp only [DP]at hl
 have hmul:i.toNat*r.sz+r.sz<=xs.length*r.sz:=by rw [<-Nat.succ_mul];exact wL _ hlt
 obtain⟨w',hr,e1,e2,e3,e4,e5,e6⟩:=gK ti hsz h3 h5 (off:=i.toNat*r.sz) (by omega)
 have hrun:(execOp a.eval ⟨none,.store U p x,ty,pos,after,none⟩).run E.P w= .ok .skip w' :=by
  simp [execOp,A,V,Instr.storeAt,ak,Instr.sureAddr,hr]
 refine⟨fun c h=>(by cases h),?_⟩
 rw [hrun]
 obtain⟨g1,g2,g3⟩:=kw (O:=O) st.sat (bx (n8 r n) T b xs) (bx (n8 r n) T b (xs.set i.toNat v)) st.own (fun _=>qu) (fun _=>qu) ⟨e1,e2,e3,e4.1,e4.2⟩ e6 ⟨hno,_,e5,by rw [BT];exact h6.1,yl h3 h6.2 hlt⟩ hno
 exact k _ _ S ⟨st.ext.step g1 (fun c hc=>st.own.1.2 c hc),g2,g3,st.facts⟩
end
def wx{α:Type}{r:Rp α}{c:Value}{x:α}(h: ∀S,r.rc S [c] x)(S:SH): ∀n,pF r S (List.replicate n c) (List.replicate n x)
 |0=>rfl
 |n+1=>⟨[c],_,rfl,h S,wx h S n⟩
def Iy{c:Value}{x:α}(n:Nat)(h: ∀S,r.rc S [c] x): ∀S,(n8 r n).rc S (List.replicate n c) (List.replicate n x):=fun S=>⟨List.length_replicate,wx h S n⟩
def TG(n:Nat):Option Unit:=if n<=68719476736 then some ()else none
def Fe{x:α}(h:cE xs lo (xs.length:Int)=some ys)(hz:xs.take lo.toNat++List.replicate ys.length x=zs):zs.length=xs.length:=by
 obtain⟨l,m,rfl,hm,A,V,rfl⟩:=fe h
 have hm' :m=xs.length:=by omega
 subst hm'
 rw [<-hz]
 simp
 omega

def tC(n:FuncId)(cts:List Ty):Ty where
 p:=fun S v=> ∃cap:List Value,v= .func (.func n) #[] cap.toArray/\wl S cts cap
 mono:=fun h ⟨cap,e,k⟩=>⟨cap,e,wl.mono h k⟩
section
section
variable{ty:TypeId}
def OG{fid:FuncId}{caps:List Operand}{cts:List Ty}(hcap:iA E.N G caps cts):bM E O G ⟨dst,.makeFunc (.func fid) #[] caps.toArray,ty,pos,after,g⟩ (tC fid cts):=
 .of_pure fun a w S _ _ hf=>⟨.func (.func fid) #[] (caps.map a.eval).toArray,by simp [execOp,Instr.makeFunc],_,rfl,hcap.tys hf⟩
end
def Nl{n:FuncId}{cts:List Ty}{ty:TypeId}{fo:Operand}{xs:List Operand}(O1 Or:List OE){t:OI->Ty}{O2:OI->List OE}(hO:O=O1++Or)(hc:aj E.P n=true)(hs:ek E.P n (ts++cts) O1 t O2)(hf:aC E.N G fo (tC n cts))(D:iA E.N G xs ts)(hpost: ∀i,O2 i++Or=post i):
  EffOK E O G ⟨some d,.call ⟨.value fo,xs.toArray,ats⟩,ty,pos,after,g⟩ post t:=fun a w S hsat ho hF H=>by
 subst hO
 obtain rfl:(fun i=>O2 i++Or)=post:=funext hpost
 obtain⟨cap,e,hcap⟩:=hf S a hF
 have hr:(execOp a.eval ⟨some d,.call ⟨.value fo,xs.toArray,ats⟩,ty,pos,after,g⟩).run E.P w= .ok (.enter n ((xs.map a.eval).toArray++cap.toArray)) w:=by
  simp [execOp,resolve,e,Deferred.ofValue,invoke,hZ hc]
 refine⟨fun c h=>(by cases h),?_⟩
 rw [hr]
 have e2:(xs.map a.eval).toArray++cap.toArray=((xs.map a.eval)++cap).toArray:=by simp
 rw [e2]
 exact(hs w S _ hsat ((D.tys hF).append hcap) (nM ho).1.weak).mono fun en w' ⟨i,v,S',he,hv,A,V,h3,h4⟩=>⟨_,he,v,S',i,rfl,A.more fun b ⟨f,hf,H⟩=>⟨f,BQ _ hf,H⟩,V,cH.turn ho H A h3 h4,hv⟩
end

def D8{α:Type}(xs:List α)(lo:Int)(n:Nat)(i:Int):Option α:=if 0<=i/\i<(n:Int)then fE xs (lo+i)else none
def vL{i:Int}(h:D8 xs lo n i=some y):0<=i/\i<(n:Int)/\fE xs (lo+i)=some y:=by
 unfold D8 at h
 split at h
 ·rename_i hc;exact⟨hc.1,hc.2,h⟩
 ·cases h
def zy(h:cE xs lo hi=some ys):0<=lo:=by
 obtain⟨l,m,rfl,_,_,_,_⟩:=fe h
 omega
section
def ou(hm:jL mm r T l cap xs∈O)(hs:cE xs lo hi=some ys)(h:(l=none->ys.length=0)/\ys.length<=maxLen->RG E ops aF rest O G):RG E ops aF rest O G:=fun a w S st=>by
 refine h ?_ a w S st
 obtain⟨cells,A,_⟩:=(st.own.mem _ hm).1
 obtain⟨l',m,_,_,_,h8,rfl⟩:=fe hs
 have hlen:((xs.take m).drop l').length<=xs.length:=by simp;omega
 cases l with
 |none=>have:=A.1;exact⟨fun _=>by omega,by omega⟩
 |some b=>obtain⟨cur,_,g2,g3,_⟩:=A;exact⟨fun h=>(by cases h),by omega⟩
section
variable{ty:TypeId}
def K5{lo:Nat}{e:TypeId}(M:E.P.underlying t=some (.slice e))(hv:l=none->n=0)(D:aC E.N G x (tV (lV sz l cap lo n))):
  bM E O G ⟨dst,.call ⟨.builtin .len,#[x],#[t]⟩,ty,pos,after,g⟩ (K (rI .i64) (n:Int)):=
 .of_pure fun a w S _ ho hf=>by
  have A:a.eval x=lV sz l cap lo n:=D S a hf
  obtain⟨ad,c,h3⟩: ∃ad c,lV sz l cap lo n= .slice ad n c:=by
   cases l with
   |none=>rw [hv rfl];exact⟨none,0,rfl⟩
   |some b=>exact⟨_,_,rfl⟩
  refine⟨.int .i64 n,?_,eD.2 rfl⟩
  simp [execOp,resolve,invoke,builtin,Builtin.len_,gP M,A,h3,goInt]
def sd{e:TypeId}{i:Int}(M:E.P.underlying t=some (.slice e))(ti:TI E.P e sz bytes agg z)(hsz:r.sz=sz)(hm:jL mm r U l cap xs∈O)(hl0:0<=lo)(D:aC E.N G x (tV (lV sz l cap lo.toNat n)))(hi' :aC E.N G ix (K (rI k) i))(hy:D8 xs lo n i=some y):
  bM E O G ⟨dst,.indexAddr t x ix,ty,pos,after,g⟩ (tV (cK l ((lo+i).toNat*sz+0))):=
 .of_pure fun a w S _ ho hf=>by
  subst hsz
  have A:a.eval x=lV r.sz l cap lo.toNat n:=D S a hf
  have h3:a.eval ix= .int k i:=eD.1 (hi' S a hf)
  obtain⟨hi0,hin,hxi⟩:=vL hy
  obtain⟨_,hx'⟩:=iu hxi
  obtain⟨b,cur,rfl,_,hle,_⟩:=n7 (ho.mem _ hm).1 hx'
  have hlt2:(lo+i).toNat<xs.length:=(pG.1 hx').1
  have hne: ¬(cap=lo.toNat):=by omega
  refine⟨_,?_,rfl⟩
  have hc:0<=i/\i<(n:Int):=⟨hi0,hin⟩
  have e1:(lo+i).toNat=lo.toNat+i.toNat:=by omega
  simp [execOp,A,h3,lV,hne,Instr.indexAt,asIntOf,gP M,hc,ti.sizeOf,gE,cK,ak,e1,v8]
end
end

section
variable{ty:TypeId}{l:List Oper}
end

def Vf [Inhabited α]{c b:Bool}{x:Option α}{k:α->Option β}{d:Option β}{r:β}(h:c=true->(if b=true then x.bind k else d)=some r): ∃y,((c&&b)=true->x=some y/\k y=some r)/\(c=true->b=false->d=some r):=by
 cases c with
 |false=>exact⟨default,fun e=>(by cases e),fun e=>(by cases e)⟩
 |true=>
  obtain⟨y,A,V⟩:=og (h rfl)
  exact⟨y,fun e=>A e,fun _ e=>V e⟩
def fD{κ β:Type} [DecidableEq κ]:List (κ×β)->κ->Option β
 |[],_=>none
 |p::m,k=>if p.1=k then some p.2 else fD m k
def ie{κ β:Type} [DecidableEq κ]:List (κ×β)->κ->β->List (κ×β)
 |[],k,v=>[(k,v)]
 |p::m,k,v=>if p.1=k then(k,v)::m else p::ie m k v
def wH{κ:Type}(P:Program)(kt:TypeId)(kv:κ->Value):Prop:= ∃d,P.underlying kt=some d/\(∀a,MapKept.IsKey d (kv a))/\ ∀a b,kv a=kv b->a=b
def WZ(k:IntKind)(n:Int):Value:= .int k n
def dn(s:cB):Value:= .string ⟨s.toArray⟩
variable{kt:TypeId}
def tg(h:P.underlying kt=some (.int k)):wH P kt (WZ k):=⟨_,h,fun _=>rfl,fun a b e=>by injection e⟩
def yy(h:P.underlying kt=some .string):wH P kt dn:=⟨_,h,fun _=>trivial,fun a b e=>by
 injection e with e
 injection e with e
 simpa using congrArg Array.toList e⟩
structure MV(β:Type) where
 p:World->SH->β->Option Nat×Nat->Value->Prop
 here: ∀{w S y o v},p w S y o v-> ∀j,o.1=some j->j<w.heap.size
 kept: ∀{C w w' S S' y o v},p w S y o v->je C w S w' S' ->(∀j,o.1=some j-> ¬C j)->p w' S' y o v
def F4{β:Type}(ty:β->Ty):MV β where
 p:=fun _ S y o v=>o.1=none/\(ty y).p S v
 here:=fun h j hj=>by rw [h.1]at hj;cases hj
 kept:=fun h k _=>⟨h.1,(ty _).mono k.keep h.2⟩
def Sr{α:Type}(r:Rp α)(T:TypeId):MV (List α) where
 p:=fun w S xs o v=>v=Y o.1 o.2 xs.length/\wk true r T o.1 o.2 xs w S
 here:=fun{w S y o v} h j hj=>(jL true r T o.1 o.2 y).here h.2 j hj
 kept:=fun{C w w' S S' y o v} h k hC=>⟨h.1,(jL true r T o.1 o.2 y).kept h.2 k hC⟩
section
variable{κ:Type} [DecidableEq κ]{h2:MV β}{kv:κ->Value}{d:TypeDesc}{k:κ}
def um(h2:MV β)(kv:κ->Value)(w:World)(S:SH)(h:Option κ):List MapEntry->List (Option Nat×Nat)->List (κ×β)->Prop
 |[],[],[]=>True
 |e::es,o::os,q::m=>e.key=kv q.1/\(if h=some q.1 then o.1=none else h2.p w S q.2 o e.val)/\(∀o' ∈os,∀j,o.1=some j->o'.1≠some j)/\(∀p∈m,p.1≠q.1)/\um h2 kv w S h es os m
 |_,_,_=>False
def E9{h:Option κ}: ∀{es:List MapEntry} {os:List (Option Nat×Nat)} {m:List (κ×β)},um h2 kv w S h es os m-> ∀o∈os,∀j,o.1=some j->j<w.heap.size
 |[],[],[],_,o,ho,_,_=>by cases ho
 |e::es,o::os,q::m,⟨_,V,_,_,h5⟩,o',ho,j,hj=>by
  rcases lK.1 ho with rfl|ho
  ·split at V
   ·rw [V]at hj;cases hj
   ·exact h2.here V j hj
  ·exact E9 h5 o' ho j hj
def yQ{C:Nat->Prop}(k:je C w S w' S'){h:Option κ}: ∀{es:List MapEntry} {os:List (Option Nat×Nat)} {m:List (κ×β)},um h2 kv w S h es os m->(∀o∈os,∀j,o.1=some j-> ¬C j)->um h2 kv w' S' h es os m
 |[],[],[],_,_=>trivial
 |e::es,o::os,q::m,⟨A,V,h3,h4,h5⟩,hC=>⟨A,by
  split
  ·rename_i hh;rw [bK hh]at V;exact V
  ·rename_i hh;rw [bG hh]at V;exact h2.kept V k (hC o (ln ..)),h3,h4,yQ k h5 fun o' ho=>hC o' (lH _ ho)⟩
def AU{h:Option κ}: ∀{es:List MapEntry} {os:List (Option Nat×Nat)} {m:List (κ×β)},um h2 kv w S h es os m->(∀p∈m,h≠some p.1)->um h2 kv w S none es os m
 |[],[],[],_,_=>trivial
 |e::es,o::os,q::m,⟨A,V,h3,h4,h5⟩,hk=>⟨A,by
  rw [bG (hk q (ln ..))]at V
  rw [bG (by simp)];exact V,h3,h4,AU h5 fun p hp=>hk p (lH _ hp)⟩
def p5(hd: ∀a,MapKept.IsKey d (kv a))(hi: ∀a b,kv a=kv b->a=b)(a b:κ):Instr.sameNow d (kv a) (kv b)=some (decide (a=b)):=by
 obtain⟨r,A,V⟩:=MapKept.sameNow_of_keys (hd a) (hd b)
 rw [A]
 by_cases h:a=b
 ·subst h;rw [V.2 rfl];simp
 ·rw [A3 h]
  cases r with
  |false=>rfl
  |true=>exact absurd (hi _ _ (V.1 rfl)) h
def nz(hd: ∀a,MapKept.IsKey d (kv a))(hi: ∀a b,kv a=kv b->a=b): ∀{es:List MapEntry} {os:List (Option Nat×Nat)} {m:List (κ×β)} (i:Nat),um h2 kv w S none es os m->
  ∃os',(∀x∈os',x∈os\/x.1=none)/\um h2 kv w S (some k) es os' m/\
   ((fD m k=none/\Instr.findNow d (kv k) es i=some none)\/ ∃(y:β) (o:Option Nat×Nat) (e:MapEntry) (j:Nat),fD m k=some y/\o∈os/\h2.p w S y o e.val/\Instr.findNow d (kv k) es i=some (some (j,e.val))/\ ∀x∈os',∀q,o.1=some q->x.1≠some q)
 |[],[],[],i,_=>⟨[],fun x D=>(by cases D),trivial,.inl ⟨rfl,rfl⟩⟩
 |e::es,o::os,q::m,i,⟨A,V,h3,h4,h5⟩=>by
  rw [bG (by simp)]at V
  by_cases hk:q.1=k
  ·refine⟨(none,0)::os,fun x D=>?_,⟨A,by rw [bK (by rw [hk])],fun _ _ _ hj=>(by cases hj),h4,?_⟩,.inr ⟨q.2,o,e,i,by unfold fD;rw [bK hk],ln ..,V,?_,fun x D j hj=>?_⟩⟩
   ·rcases lK.1 D with rfl|D
    ·exact .inr rfl
    ·exact .inl (lH _ D)
   ·have: ∀{es:List MapEntry} {os:List (Option Nat×Nat)} {m:List (κ×β)},um h2 kv w S none es os m->(∀p∈m,p.1≠k)->um h2 kv w S (some k) es os m:=by
     intro es
     induction es with
     |nil=>intro os m h _;cases os<;>cases m<;>first|trivial|exact h.elim
     |cons e es ih=>
      intro os m h hm
      cases os with
      |nil=>cases m<;>exact h.elim
      |cons o os=>
       cases m with
       |nil=>exact h.elim
       |cons q m=>
        obtain⟨g1,g2,g3,g4,g5⟩:=h
        rw [bG (by simp)]at g2
        exact⟨g1,by rw [bG (fun e=>hm q (ln ..) (nO e).symm)];exact g2,g3,g4,ih g5 fun p hp=>hm p (lH _ hp)⟩
    exact this h5 (fun p hp=>by rw [<-hk];exact h4 p hp)
   ·unfold Instr.findNow
    rw [A,p5 hd hi,hk,xK rfl]
   ·rcases lK.1 D with rfl|D
    ·exact fun e=>by cases e
    ·exact h3 x D j hj
  ·obtain⟨os',g1,g2,g3⟩:=nz hd hi (i+1) h5
   refine⟨o::os',fun x D=>?_,⟨A,by rw [bG (fun e=>hk (nO e).symm)];exact V,fun o' ho' j hj=>?_,h4,g2⟩,?_⟩
   ·rcases lK.1 D with rfl|D
    ·exact .inl (ln ..)
    ·exact(g1 x D).imp (lH _) id
   ·rcases g1 o' ho' with h|h
    ·exact h3 o' h j hj
    ·rw [h];exact fun e=>by cases e
   ·have hf:Instr.findNow d (kv k) (e::es) i=Instr.findNow d (kv k) es (i+1):=by
     conv=>lhs;unfold Instr.findNow
     rw [A,p5 hd hi,A3 (fun e=>hk e.symm)]
    have hm:fD (q::m) k=fD m k:=by conv=>lhs;unfold fD;rw [bG hk]
    rw [hf,hm]
    refine g3.imp id fun⟨y,o1,e1,j,f1,f2,f3,f4,f5⟩=>⟨y,o1,e1,j,f1,lH _ f2,f3,f4,fun x D q hq=>?_⟩
    rcases lK.1 D with rfl|D
    ·exact fun e=>h3 o1 f2 q e hq
    ·exact f5 x D q hq
def AM(x:α)(xs:List α)(j:Nat)(f:α->α):(x::xs).modify (j+1) f=x::xs.modify j f:=by simp [List.modify_succ_cons]
def Fa(hd: ∀a,MapKept.IsKey d (kv a))(hi: ∀a b,kv a=kv b->a=b){y:β}{o:Option Nat×Nat}{v:Value}{born:Nat}(hv:h2.p w S y o v): ∀{es:List MapEntry} {os:List (Option Nat×Nat)} {m:List (κ×β)} (i:Nat),um h2 kv w S (some k) es os m->(∀o' ∈os,∀j,o.1=some j->o'.1≠some j)->
    ∃os',(∀x∈os',x∈os\/x=o)/\
      ((∃(j:Nat) (e:MapEntry),Instr.findNow d (kv k) es i=some (some (i+j,e.val))/\es[j]? =some e/\e.key=kv k/\um h2 kv w S none (es.modify j fun e=>{e with key:=kv k,val:=v}) os' (ie m k y))\/
        (Instr.findNow d (kv k) es i=some none/\um h2 kv w S none (es++[⟨kv k,v,born⟩]) os' (ie m k y)))
  |[],[],[],i,_,_=>⟨[o],fun x D=> .inr (uk.1 D),.inr ⟨rfl,⟨rfl,by rw [bG (by simp)];exact hv,fun _ h=>(by cases h),fun _ h=>(by cases h),trivial⟩⟩⟩
  |e::es,o1::os,q::m,i,⟨A,V,h3,h4,h5⟩,ha=>by
    by_cases hk:q.1=k
    · refine⟨o::os,fun x D=>?_,.inl ⟨0,e,?_,rfl,by rw [A,hk],?_⟩⟩
      · rcases lK.1 D with rfl|D
        · exact .inr rfl
        · exact .inl (lH _ D)
      · unfold Instr.findNow
        rw [A,p5 hd hi,hk,xK rfl]
        rfl
      · unfold ie
        rw [bK hk,List.modify_zero_cons]
        exact⟨rfl,by rw [bG (by simp)];exact hv,fun o' ho' =>ha o' (lH _ ho'),fun p hp=>by rw [<-hk];exact h4 p hp,
          AU h5 fun p hp e=>h4 p hp (by rw [hk];exact(nO e).symm)⟩
    · obtain⟨os',g1,g2⟩:=Fa hd hi (born:=born) hv (i+1) h5 fun o' ho' =>ha o' (lH _ ho')
      rw [bG (fun e=>hk (nO e).symm)]at V
      have hf:Instr.findNow d (kv k) (e::es) i=Instr.findNow d (kv k) es (i+1):=by
        conv=>lhs;unfold Instr.findNow
        rw [A,p5 hd hi,A3 (fun e=>hk e.symm)]
      have hm:ie (q::m) k y=q::ie m k y:=by conv=>lhs;unfold ie;rw [bG hk]
      have hap: ∀o' ∈os',∀j,o1.1=some j->o'.1≠some j:=fun o' ho' j hj=>by
        rcases g1 o' ho' with h|rfl
        · exact h3 o' h j hj
        · exact fun e=>ha o1 (ln ..) j e hj
      have hne: ∀p∈ie m k y,p.1≠q.1:=by
        have: ∀m:List (κ×β),(∀p∈m,p.1≠q.1)-> ∀p∈ie m k y,p.1≠q.1:=by
          intro m
          induction m with
          |nil=>intro _ p hp;rw [uk.1 hp];exact fun e=>hk e.symm
          |cons p0 m ih=>
            intro hm p hp
            unfold ie at hp
            split at hp
            · rcases lK.1 hp with rfl|hp
              · exact fun e=>hk e.symm
              · exact hm p (lH _ hp)
            · rcases lK.1 hp with rfl|hp
              · exact hm _ (ln ..)
              · exact ih (fun p hp=>hm p (lH _ hp)) p hp
        exact this m h4
      rw [hf,hm]
      refine⟨o1::os',fun x D=>?_,g2.imp (fun⟨j,e',f1,f2,f3,f4⟩=>⟨j+1,e',by rw [f1];congr 3;omega,by simpa using f2,f3,?_⟩) fun⟨f1,f2⟩=>⟨f1,?_⟩⟩
      · rcases lK.1 D with rfl|D
        · exact .inl (ln ..)
        · exact(g1 x D).imp (lH _) id
      · rw [AM]
        exact⟨A,by rw [bG (by simp)];exact V,hap,hne,f4⟩
      · exact⟨A,by rw [bG (by simp)];exact V,hap,hne,f2⟩
def E8{h:Option κ}: ∀{es:List MapEntry} {os:List (Option Nat×Nat)} {m:List (κ×β)},um h2 kv w S h es os m-> ∀x∈es,∃q∈m,x.key=kv q.1
 |[],[],[],_,x,D=>by cases D
 |e::es,o::os,q::m,⟨A,_,_,_,h5⟩,x,D=>by
  rcases lK.1 D with rfl|D
  ·exact⟨q,ln ..,A⟩
  ·obtain⟨q',g1,g2⟩:=E8 h5 x D
   exact⟨q',lH _ g1,g2⟩
def M0(hd: ∀a,MapKept.IsKey d (kv a)){h:Option κ}{es:List MapEntry}{os:List (Option Nat×Nat)}{m:List (κ×β)}(h4:um h2 kv w S h es os m)(g1:Instr.findNow d (kv k) es i=some none){x:MapEntry}(D:x∈es):x.key≠kv k:=by
 rcases MapKept.findNow_spec (hd k) es i (fun y hy=>by obtain⟨q,_,e⟩:=E8 h4 y hy;rw [e];exact hd _)with⟨_,V⟩|⟨j,e,V,_⟩
 ·exact V x D
 ·rw [g1]at V;cases V
def br(h2:MV β)(kv:κ->Value)(b:Nat)(h:Option κ)(os:List (Option Nat×Nat))(m:List (κ×β)):OE where
 fp:=fun j=>j=b\/ ∃o∈os,o.1=some j
 p:=fun w S=>S b=none/\(∀o∈os,o.1≠some b)/\ ∃es clock,w.heap[b]? =some (.map es clock)/\um h2 kv w S h es.toList os m/\MapKept.Stamped es clock
 here:=by
  intro w S ⟨_,_,es,clock,h3,h4,_⟩ j hj
  rcases hj with rfl|⟨o,ho,hj⟩
  ·exact(wO.1 h3).1
  ·exact E9 h4 o ho j hj
 kept:=by
  intro C w w' S S' ⟨A,V,es,clock,h3,h4,hst⟩ k hC
  have hlt:=(wO.1 h3).1
  exact⟨by rw [k.old b hlt (hC b (.inl rfl))];exact A,V,es,clock,by rw [k.heap b hlt (hC b (.inl rfl))];exact h3,yQ k h4 (fun o ho j hj=>hC j (.inr ⟨o,ho,hj⟩)),hst⟩
def am(b:Nat):Value:= .map (some b)
end
variable{r' :Rp γ}
section
variable{κ:Type} [DecidableEq κ]{h2:MV β}{kv:κ->Value}{os:List (Option Nat×Nat)}{m:List (κ×β)}{k:κ}{et:TypeId}{i v:Operand}{dst:Option Nat}{ty:TypeId}
def ui(N:Fr)(G:kP)(x:Operand)(u:Value):Prop:= ∀S a,cm N S a G->a.eval x=u
def JF{N:Fr}{q:IntKind}{n:Int}(h:aC N G x (K (rI q) n)):ui N G x (WZ q n):=fun S a hf=>eD.1 (h S a hf)
def OS{N:Fr}{n:cB}(h:aC N G x (K rS n)):ui N G x (dn n):=fun S a hf=>qy.1 (h S a hf)
def ZV(P:Program)(T:TypeId)(z:Value):Prop:=(P.info? T).bind (·.zero)=some z
def ZV.run{z:Value}(h:ZV P T z)(w:World):(zeroValue T).run P w= .ok z w:=by
 unfold ZV at h
 cases hi:P.info? T with
 |none=>rw [hi]at h;cases h
 |some i=>
  rw [hi]at h
  have h' :i.zero=some z:=h
  simp [zeroValue,typeInfo,hi,h']
def xy(h2:MV β)(kv:κ->Value)(hd:Nat.blt d E.N.n=true)(k: ∀b,RG E ops aF rest (br h2 kv b none [] []::O) ((d,tV (am b))::G)):
  RG E ops aF (⟨some d,.makeMap t none,ty,pos,after,none⟩::rest) O G:= .of rfl fun a w S st=>by
 obtain⟨he,hs',hno⟩:=jq (w:=w) (.map #[] 0) st.sat
 have hrun:(execOp a.eval ⟨some d,.makeMap t none,ty,pos,after,none⟩).run E.P w= .ok (.value (am w.heap.size)) (w.alloc (.map #[] 0)):=by
  simp [execOp,Instr.makeMap,am]
 refine⟨fun c h=>(by cases h),?_⟩
 rw [hrun]
 exact k w.heap.size _ _ S ⟨st.ext.step0 he,hs',p9 st.own he ⟨hno,fun _ h=>(by cases h),#[],0,wn w _,trivial,MapKept.stamped_empty 0⟩ (fun b H=>by
  rcases H with rfl|⟨_,h,_⟩
  ·exact eX _
  ·cases h) st.base_le,st.facts.put hd rfl⟩
def jm{kk:Value}{es:Array MapEntry}{clock:Nat}{q:TypeDesc}{z:Value}{u:Option (Nat×Value)}(hm:P.underlying t=some (.map kt et))(hq:P.underlying kt=some q)(hk:MapKept.IsKey q kk)(H:w.heap[b]? =some (.map es clock))(hz:ZV P et z)(hf:Instr.findNow q kk es.toList 0=some u)(c:Bool):(Instr.lookup t (am b) kk c).run P w= .ok (if c then .tuple #[(u.map (·.2)).getD z,.bool u.isSome]else(u.map (·.2)).getD z) w:=by
 cases u with
 |none=>simp [Instr.lookup,am,gP hm,GM H,Kv hq hk,MapKept.run_findKey hq hf,hz.run,Result.andThen]
 |some r=>simp [Instr.lookup,am,gP hm,GM H,Kv hq hk,MapKept.run_findKey hq hf,Result.andThen]
def Jv{γ:β->Ty}{z:β}{zv:Value}(hm:E.P.underlying t=some (.map kt et))(hk:wH E.P kt kv)(hz:ZV E.P et zv)(hzt: ∀S,(γ z).p S zv)(hmem:br (F4 γ) kv b none os m∈O)(D:aC E.N G x (tV (am b)))(hi:ui E.N G i (kv k)):
  bM E O G ⟨dst,.lookup t x i false,ty,pos,after,g⟩ (γ ((fD m k).getD z)):= .of_pure fun a w S hs ho hf=>by
 obtain⟨⟨_,_,es,clock,h3,h4,_⟩,_⟩:=cH.mem ho _ hmem
 obtain⟨q,hq,hd,hinj⟩:=hk
 have A:a.eval x=am b:=D S a hf
 have V:a.eval i=kv k:=hi S a hf
 obtain⟨_,_,_,h5⟩:=nz hd hinj (k:=k) 0 h4
 rcases h5 with⟨g1,g2⟩|⟨y,o,e,j,g1,g2,g3,g4,g5⟩
 ·refine⟨zv,by simp [execOp,A,V,jm hm hq (hd k) h3 hz g2],by rw [g1];exact hzt S⟩
 ·refine⟨e.val,by simp [execOp,A,V,jm hm hq (hd k) h3 hz g4],by rw [g1];exact g3.2⟩
def Jw{m:List (κ×List α)}(hm:E.P.underlying t=some (.map kt et))(hk:wH E.P kt kv)(hz:ZV E.P et (.slice none 0 0))(hmem:br (Sr r T) kv b none os m∈O)(D:aC E.N G x (tV (am b)))(hi:ui E.N G i (kv k)):
  bM E O G ⟨dst,.lookup t x i false,ty,pos,after,g⟩ (K (eF r) ((fD m k).getD [])):= .of_pure fun a w S hs ho hf=>by
 obtain⟨⟨_,_,es,clock,h3,h4,_⟩,_⟩:=cH.mem ho _ hmem
 obtain⟨q,hq,hd,hinj⟩:=hk
 have A:a.eval x=am b:=D S a hf
 have V:a.eval i=kv k:=hi S a hf
 obtain⟨_,_,_,h5⟩:=nz hd hinj (k:=k) 0 h4
 rcases h5 with⟨g1,g2⟩|⟨y,o,e,j,g1,g2,g3,g4,g5⟩
 ·refine⟨.slice none 0 0,by simp [execOp,A,V,jm hm hq (hd k) h3 hz g2],by rw [g1];exact yd⟩
 ·refine⟨e.val,by simp [execOp,A,V,jm hm hq (hd k) h3 hz g4],by rw [g1,g3.1];exact kp g3.2⟩
def zI{kk:Value}{es:Array MapEntry}{clock:Nat}{q:TypeDesc}{val:Value}(hm:P.underlying t=some (.map kt et))(hq:P.underlying kt=some q)(hk:MapKept.IsKey q kk)(H:w.heap[b]? =some (.map es clock)):
  (Instr.findNow q kk es.toList 0=some none->(Instr.mapUpdate t (am b) kk val).run P w= .ok () {w with heap:=w.heap.setIfInBounds b (.map (es.push ⟨kk,val,clock⟩) (clock+1))})/\
  (∀j e,Instr.findNow q kk es.toList 0=some (some (j,e))->(∀e',es.toList[j]? =some e' ->e'.key=kk)->(∃e',es.toList[j]? =some e')->(Instr.mapUpdate t (am b) kk val).run P w= .ok () {w with heap:=w.heap.setIfInBounds b (.map (es.modify j fun e=>{e with key:=kk,val:=val}) clock)}):=by
 refine⟨fun hf=>?_,fun j e hf hj he=>?_⟩
 ·simp [Instr.mapUpdate,am,gP hm,GM H,Kv hq hk,MapKept.run_findKey hq hf,Kz _ H,Result.andThen]
 ·obtain⟨e',he'⟩:=he
  have A:=hj e' he'
  have V:es[j]? =some e' :=by simpa using he'
  simp [Instr.mapUpdate,am,gP hm,GM H,Kv hq hk,MapKept.run_findKey hq hf,Kz _ H,Result.andThen,V,A,MapKept.run_keyThatStays hk]
def zP{y:β}{o:Option Nat×Nat}{val:Value}(hs:kb w S)(hm:E.P.underlying t=some (.map kt et))(hk:wH E.P kt kv)(hp:(br h2 kv b (some k) os m).p w S)(hv:h2.p w S y o val)(hob:o.1≠some b)(hap: ∀o' ∈os,∀j,o.1=some j->o'.1≠some j):
  ∃w' os',(Instr.mapUpdate t (am b) (kv k) val).run E.P w= .ok () w' /\je (fun j=>j=b) w S w' S/\kb w' S/\(br h2 kv b none os' (ie m k y)).p w' S/\(∀j,(br h2 kv b none os' (ie m k y)).fp j->(br h2 kv b (some k) os m).fp j\/o.1=some j):=by
 obtain⟨hno,hnb,es,clock,h3,h4,hst⟩:=hp
 obtain⟨q,hq,hdk,hinj⟩:=hk
 obtain⟨os',p1,p2⟩:=Fa hdk hinj (born:=clock) hv 0 h4 hap
 have hnb' : ∀o' ∈os',o'.1≠some b:=fun o' ho' =>by
  rcases p1 o' ho' with h|rfl
  ·exact hnb o' h
  ·exact hob
 have hfp: ∀j,(j=b\/ ∃o∈os',o.1=some j)->(j=b\/ ∃o∈os,o.1=some j)\/o.1=some j:=fun j hj=>by
  rcases hj with h|⟨o',ho',e⟩
  ·exact .inl (.inl h)
  ·rcases p1 o' ho' with h|rfl
   ·exact .inl (.inr ⟨o',h,e⟩)
   ·exact .inr e
 have hw: ∀X:Obj,je (fun j=>j=b) w S {w with heap:=w.heap.setIfInBounds b X} S/\kb {w with heap:=w.heap.setIfInBounds b X} S/\({w with heap:=w.heap.setIfInBounds b X}:World).heap[b]? =some X:=fun X=>
  ⟨⟨rfl,rfl,rfl,eX _,by simp,fun j _ hj=>(MapKept.heap_set (o' :=X) h3).2 j hj,SH.le_refl _,fun _ _ _=>rfl⟩,hs.same fun j o hj=>(MapKept.heap_set (o' :=X) h3).2 j (fun e=>by subst e;rw [hno]at hj;cases hj),(MapKept.heap_set h3).1⟩
 obtain⟨r1,r2⟩:=zI (val:=val) hm hq (hdk k) h3
 rcases p2 with⟨j,e,g1,g2,g3,g4⟩|⟨g1,g2⟩
 ·rw [ph]at g1
  obtain⟨x1,x2,x3⟩:=hw (.map (es.modify j fun e=>{e with key:=kv k,val:=val}) clock)
  refine⟨_,os',r2 j _ g1 (fun e' he' =>by rw [g2]at he';cases he';exact g3) ⟨_,g2⟩,x1,x2,⟨hno,hnb',_,_,x3,?_,MapKept.stamped_modify hst j _ (fun _ _=>rfl) (fun e' _ he' =>by rw [<-Ky,g2]at he';cases he';exact g3.symm)⟩,hfp⟩;refine yQ x1 (by rw [Array.toList_modify];exact g4) fun o' ho' j hj e=>?_
  subst e
  exact hnb' o' ho' hj
 ·obtain⟨x1,x2,x3⟩:=hw (.map (es.push ⟨kv k,val,clock⟩) (clock+1))
  refine⟨_,os',r1 g1,x1,x2,⟨hno,hnb',_,_,x3,?_,MapKept.stamped_push hst (fun x D e=>?_)⟩,hfp⟩
  rotate_left
  ·exact M0 hdk h4 g1 D e
  refine yQ x1 (by rw [Array.toList_push];exact g2) fun o' ho' j hj e=>?_
  subst e
  exact hnb' o' ho' hj
def R7{γ:β->Ty}{y:β}(hm:E.P.underlying t=some (.map kt et))(hk:wH E.P kt kv)(D:aC E.N G x (tV (am b)))(hi:ui E.N G i (kv k))(hv:aC E.N G v (γ y))
  (h: ∀os',RG E ops aF rest (br (F4 γ) kv b none os' (ie m k y)::O) G):
  RG E ops aF (⟨none,.mapUpdate t x i v,ty,pos,after,none⟩::rest) (br (F4 γ) kv b none os m::O) G:= .of rfl fun a w S st=>by
 have A:a.eval x=am b:=D S a st.facts
 have V:a.eval i=kv k:=hi S a st.facts
 have h3:(γ y).p S (a.eval v):=hv S a st.facts
 obtain⟨⟨hp,hfp⟩,hap,hO⟩:=st.own
 obtain⟨hno,hnb,es,clock,e3,e4,hst⟩:=hp
 obtain⟨q,hq,hdk,hinj⟩:=hk
 obtain⟨os1,p1,p2,_⟩:=nz hdk hinj (k:=k) 0 e4
 have hnb1: ∀o∈os1,o.1≠some b:=fun o ho=>by
  rcases p1 o ho with h|h
  ·exact hnb o h
  ·rw [h];exact fun e=>by cases e
 obtain⟨w',os',r,x1,x2,x3,x4⟩:=zP (h2:=F4 γ) (E:=E) (y:=y) (o:=(none,0)) (val:=a.eval v) st.sat hm ⟨q,hq,hdk,hinj⟩ ⟨hno,hnb1,es,clock,e3,p2,hst⟩ ⟨rfl,h3⟩ (fun e=>by cases e) (fun _ _ _ e=>by cases e)
 have hrun:(execOp a.eval ⟨none,.mapUpdate t x i v,ty,pos,after,none⟩).run E.P w= .ok .skip w' :=by simp [execOp,A,V,r]
 refine⟨fun c h=>(by cases h),?_⟩
 rw [hrun]
 have hfp' : ∀j,(br (F4 γ) kv b none os' (ie m k y)).fp j->(br (F4 γ) kv b none os m).fp j:=fun j hj=>by
  rcases x4 j hj with(h|⟨o,ho,e⟩)|e
  ·exact .inl h
  ·rcases p1 o ho with h|h
   ·exact .inr ⟨o,h,e⟩
   ·rw [h]at e;cases e
  ·cases e
 exact h os' _ _ S ⟨st.ext.step x1 (fun c hc=>hfp c (.inl hc)),x2,⟨⟨x3,fun j hj=>hfp j (hfp' j hj)⟩,fun f hf j hj=>hap f hf j (hfp' j hj),hO.ext x1 fun f hf j hj hjb=>hap f hf j (.inl hjb) hj⟩,st.facts⟩
def R8{c:Nat}{m:List (κ×List α)}(hm:E.P.underlying t=some (.map kt et))(hk:wH E.P kt kv)(D:aC E.N G x (tV (am b)))(hi:ui E.N G i (kv k))(hv:aC E.N G v (tO r l c xs))(h: ∀os',RG E ops aF rest (br (Sr r T) kv b none os' (ie m k xs)::O) G):
  RG E ops aF (⟨none,.mapUpdate t x i v,ty,pos,after,none⟩::rest) (Z r T l c xs::br (Sr r T) kv b (some k) os m::O) G:= .of rfl fun a w S st=>by
 have A:a.eval x=am b:=D S a st.facts
 have V:a.eval i=kv k:=hi S a st.facts
 have h3:a.eval v=Y l c xs.length:=wT hv S a st.facts
 obtain⟨⟨M,htf⟩,hta,⟨hp,hfp⟩,hap,hO⟩:=st.own
 have hmm:=hta _ (ln ..)
 obtain⟨w',os',r',x1,x2,x3,x4⟩:=zP (h2:=Sr r T) (E:=E) (y:=xs) (o:=(l,c)) (val:=a.eval v) st.sat hm hk hp ⟨h3,M⟩ (fun e=>hmm b e (.inl rfl)) (fun o' ho' j hj e=>hmm j hj (.inr ⟨o',ho',e⟩))
 have hrun:(execOp a.eval ⟨none,.mapUpdate t x i v,ty,pos,after,none⟩).run E.P w= .ok .skip w' :=by simp [execOp,A,V,r']
 refine⟨fun c h=>(by cases h),?_⟩
 rw [hrun]
 exact h os' _ _ S ⟨st.ext.step x1 (fun c hc=>hfp c (.inl hc)),x2,⟨⟨x3,fun j hj=>(x4 j hj).elim (hfp j) (htf j)⟩,fun f hf j hj=>(x4 j hj).elim (hap f hf j) (fun e=>hta f (lH _ hf) j e),hO.ext x1 fun f hf j hj hjb=>hap f hf j (.inl hjb) hj⟩,st.facts⟩
end

def xb(tmps:Array Value):ResultVar->Sem Value
 | .tmp t=>pure (tmps.getD t undef)
 | .cell a t=>do loadVar t (<-asAddr (tmps.getD a undef))
def PO(P:Program)(N:Fr)(G:kP)(rv:ResultVar)(t:Ty):Prop:= ∀a w S,kb w S->cm N S a G-> ∃v,(xb a.tmps rv).run P w= .ok v w/\t.p S v
def cD{N:Fr}{k:Nat}{t:Ty}(hk:look G k=some t):PO P N G (.tmp k) t:=fun a w S _ hf=>⟨_,rfl,hf.at_ k t hk⟩
def eS{N:Fr}{k:Nat}{x:α}(ti:TI P T sz bytes agg z)(hsz:r.sz=sz)(hag:r.agg=agg)(hk:look G k=some (aU r x)):PO P N G (.cell k T) (K r x):=fun a w S hs hf=>by
 obtain⟨b,off,c,U,fr,A,V,h3⟩:=hf.at_ k _ hk
 obtain⟨c',h4,h5⟩:=hs.part V (r.len h3)
 rw [<-h5]at h3
 have hl:=jw ti h4 hsz hag h3
 have h1' :a.tmps[k]?.getD undef=Value.pointer (some ⟨b,off,none⟩):=by simpa [GN] using A
 exact⟨_,by simp [xb,h1',asAddr,hl],_,rfl,h3⟩
def Nv(P:Program)(N:Fr)(G:kP):List ResultVar->List Ty->Prop
 |[],[]=>True
 |rv::rvs,t::ts=>PO P N G rv t/\Nv P N G rvs ts
 |_,_=>False
def Nv.run{N:Fr}(hs:kb w S)(hf:cm N S a G): ∀{rvs:List ResultVar} {ts:List Ty},Nv P N G rvs ts-> ∃vs,(rvs.mapM (xb a.tmps)).run P w= .ok vs w/\wl S ts vs/\vs.length=rvs.length
 |[],[],_=>⟨[],rfl,trivial,rfl⟩
 |rv::rvs,t::ts,⟨A,V⟩=>by
  obtain⟨v,g1,g2⟩:=A a w S hs hf
  obtain⟨vs,k1,k2,k3⟩:=Nv.run hs hf V
  exact⟨v::vs,by simp [List.mapM_cons,g1,k1,Result.andThen],⟨g2,k2⟩,by simp [k3]⟩
def mQ{rvs:List ResultVar}(hr:fn.results=rvs.toArray)(A:Nat.beq rvs.length 1=false)(h:Nv P ⟨N,[]⟩ G rvs ts):
  AT ⟨P,⟨N,[]⟩,B,w0,S0,none⟩ (bodyPost P fn (JZ ⟨P,⟨N,[]⟩,B,w0,S0,none⟩ (tT ts))) .ret O G:=fun a w S st=>by
 obtain⟨vs,k1,k2,k3⟩:=h.run st.sat st.facts
 have hne: ¬vs.length=1:=by rw [k3];intro e;rw [e]at A;cases A
 refine⟨st.facts.defers,.tuple vs.toArray,?_,_,S,rfl,st.ext,st.sat,vs,rfl,k2⟩
 have e1:(fn.results.mapM (xb a.tmps)).run P w= .ok vs.toArray w:=by
  rw [hr,List.mapM_toArray,Sem.run_map,k1]
  rfl
 have e3:results fn a.tmps=((fn.results.mapM (xb a.tmps))>>=fun vs=>pure (if h:vs.size=1 then vs[0]else .tuple vs)):=rfl
 rw [e3,ow,e1]
 simp [Result.andThen,hne]

def Oa{v:Value}(h:(K (eF r) xs).p S v):(eF r).rc S [v] xs:=by
 obtain⟨cs,e,V⟩:=h
 obtain⟨a,cap,e2,h3⟩:=V
 subst e2
 rw [e]
 exact⟨a,cap,rfl,h3⟩
section
variable{ty:TypeId}
def iF{r:Rp β}{get:β->Value}{x:β}{p:Operand}(ti:TI E.P U 1 bytes false z)(hget:g9 r off rV get)(hm:bx r T b x∈O)(hv:get x=Y l cap n)(hp:aC E.N G p (tV (ak b off))):
  bM E O G ⟨dst,.load U p,ty,pos,after,g⟩ (tV (Y l cap n)):=(bz (q:=rV) ti rfl rfl hget hm hp).imp fun _ _ h=>by rw [<-hv];exact(ye.1 h).1
def EJ{q:Rp α}{r:Rp β}{get:β->Value}{x:β}{h2:TypeId}{p:Operand}(ti:TI E.P U 1 bytes false z)(hget:g9 r off rV get)(hm:bx r T b x∈O)(hm2:Z q h2 l cap xs∈O)(hv:get x=Y l cap xs.length)(hp:aC E.N G p (tV (ak b off))):
  bM E O G ⟨dst,.load U p,ty,pos,after,g⟩ (tO q l cap xs):=fun a w S hs ho hf=>
 mH (fun _ _ ⟨v,S',A,V,h3,h4⟩=>⟨v,S',A,V,h3,h4,by
  have h5:v=Y l cap xs.length:=h4
  rw [h5]
  exact kp (((ho.ext0 V).mem _ hm2).1)⟩) (iF (g:=g) (ty:=ty) (pos:=pos) (after:=after) (dst:=dst) ti hget hm hv hp a w S hs ho hf)
def se{o:Nat}{p:Operand}(hf:aT E.P T i=some (off,sz))(h0:Nat.beq sz 0=false)(hp:aC E.N G p (tV (ak b o)))(he:o+off=n):bM E O G ⟨dst,.fieldAddr T p i,ty,pos,after,g⟩ (tV (ak b n)):=by
 subst he
 exact D6 hf h0 hp
def qH{q:Rp α}{r:Rp β}{x:β}{p:Operand}(ti:TI E.P U sz bytes agg z)(hsz:q.sz=sz)(hag:q.agg=agg)(hag2:r.agg=agg)(hsz2:r.sz=sz)(hm:bx r T b x∈O)(hc: ∀w S cs,cH E.base E.B w S O->r.rc S cs x->q.rc S cs y)(hp:aC E.N G p (tV (ak b 0))):
  bM E O G ⟨dst,.load U p,ty,pos,after,g⟩ (K q y):= .of_pure fun a w S _ ho hf=>by
 have A:a.eval p=ak b 0:=hp S a hf
 obtain⟨⟨_,cur,h5,h6⟩,_⟩:=ho.mem _ hm
 have h7:=hc w S _ ho h6
 have hl:=q.len h7
 have h8:q.rc S ((cur.toList.drop 0).take q.sz) y:=by rw [sq,pJ (by omega)];exact h7
 exact⟨_,by simp [execOp,A,ak,Instr.loadAt,Instr.sureAddr,jw ti h5 hsz hag h8],_,rfl,h8⟩
def rn{q:Rp α}{h2:TypeId}(ho:cH base B w S O)(hm:Z q h2 l cap xs∈O):(eF q).rc S [Y l cap xs.length] xs:=Oa (kp (ho.mem _ hm).1)
end
def pA{α β γ:Type}(r:Rp α)(r' :Rp γ)(off:Nat)(q:Rp β)(x:α)(y:β)(x' :γ):Prop:= ∀S cs ds,r.rc S cs x->q.rc S ds y->r'.rc S (cs.take off++ds++cs.drop (off+q.sz)) x'
def uI{x:α}{y:β}(h:dW r off q set):pA r r off q x y (set x y):=fun S cs ds A V=>h S cs x ds y A V
def gS{x:α}{y:γ}(hs:r.sz=r'.sz):pA r r' 0 r' x y y:=fun S cs ds A V=>by
 have hl:=r.len A
 rw [List.take_zero,nj,su (by omega),xL]
 exact V
def vy{α' :Type}{p:Rp α}{p' :Rp α'}{x:α×β}{y:γ}{x1:α'}(h:pA p p' 0 u x.1 y x1)(hu:Nat.ble u.sz p.sz=true):pA (bC p q) (bC p' q) 0 u x y (x1,x.2):=fun S cs ds ⟨a,b,e,A,V⟩ hd=>by
 have hl:=p.len A
 have hu' :=pI hu
 have h3:=h S a ds A hd
 subst e
 rw [List.take_zero,nj,ph,IR (by omega),<-gQ]
 rw [List.take_zero,nj,ph]at h3
 exact⟨_,_,rfl,h3,V⟩
def nW{β' :Type}{p:Rp α}{q' :Rp β'}{x:α×β}{y:γ}{off' :Nat}{x2:β'}(h:pA q q' off u x.2 y x2)(ho:off' =p.sz+off):pA (bC p q) (bC p q') off' u x y (x.1,x2):=fun S cs ds ⟨a,b,e,A,V⟩ hd=>by
 have hl:=p.len A
 have h3:=h S b ds V hd
 subst e ho
 refine⟨a,_,?_,A,h3⟩
 have e1:p.sz+off-a.length=off:=by omega
 have e2:p.sz+off+u.sz-a.length=off+u.sz:=by omega
 rw [List.take_append,List.drop_append,pJ (by omega),su (by omega),e1,e2]
 simp
variable{x' :γ}
def vx{α' β' :Type}{p:Rp α}{p' :Rp α'}{f:β->α}{f' :β' ->α'}{x:β}{x' :β'}{y:γ}{z:α'}(h:pA p p' off u (f x) y z)(e:f' x' =z):pA (iT p f) (iT p' f') off u x y x' :=fun S cs ds A V=>by
 show p'.rc S _ (f' x')
 rw [e]
 exact h S cs ds A V
section
variable{ty:TypeId}
def kc{x:α}{y:β}{p v:Operand}(ti:TI E.P U sz bytes agg z)(hsz:q.sz=sz)(hset:pA r r' off q x y x')(hoff:Nat.ble (off+q.sz) r.sz=true)(hp:aC E.N G p (tV (ak b off)))(hv:aC E.N G v (K q y))(k:RG E ops aF rest (bx r' T b x' ::O) G):RG E ops aF (⟨none,.store U p v,ty,pos,after,none⟩::rest) (bx r T b x::O) G:= .of rfl fun a w S st=>by
 have A:a.eval p=ak b off:=hp S a st.facts
 obtain⟨ds,V,h3⟩:=hv S a st.facts
 obtain⟨⟨hno,cur,h5,h6⟩,_⟩:=st.own.1
 have hl:=r.len h6
 have hoff' :=pI hoff
 obtain⟨w',hr,e1,e2,e3,e4,e5,e6⟩:=gK ti hsz h3 h5 (off:=off) (by simp at hl;omega)
 have hrun:(execOp a.eval ⟨none,.store U p v,ty,pos,after,none⟩).run E.P w= .ok .skip w' :=by
  simp [execOp,A,V,Instr.storeAt,ak,Instr.sureAddr,hr]
 refine⟨fun c h=>(by cases h),?_⟩
 rw [hrun]
 obtain⟨g1,g2,g3⟩:=kw (O:=O) st.sat (bx r T b x) (bx r' T b x') st.own (fun _=>qu) (fun _=>qu) ⟨e1,e2,e3,e4.1,e4.2⟩ e6 ⟨hno,_,e5,by simpa using hset S _ _ h6 h3⟩ hno
 exact k _ _ S ⟨st.ext.step g1 (fun c hc=>st.own.1.2 c hc),g2,g3,st.facts⟩
def St.cvB{x:α}(h: ∀w S cs,cH E.base E.B w S O->r.rc S cs x->r'.rc S cs x')(st:St E (bx r T b x::O) G a w S):St E (bx r' T b x' ::O) G a w S:=
 st.own_map fun⟨⟨⟨A,c,V,h3⟩,h4⟩,h5,h6⟩=>⟨⟨⟨A,c,V,h _ _ _ h6 h3⟩,h4⟩,h5,h6⟩
def Km{x:α}(h: ∀w S cs,cH E.base E.B w S O->r.rc S cs x->r'.rc S cs x')(k:RG E ops aF rest (bx r' T b x' ::O) G):RG E ops aF rest (bx r T b x::O) G:=fun a w S st=>k a w S (st.cvB h)
end

section
variable{b:Frame}{k:List Item}{cs:List Frame}{F:Fence}
def nF:step P (lone (b.atR a (.code (.scope c)::k)) cs w)= .next (lone (b.atR a (.code c:: .inScope c::k)) cs w):=
 step_lone_go (by simp [stepG,stepG.exec,Frame.atR])
def D0:step P (lone (b.atR a (.inScope c::k)) cs w)= .next (lone (b.atR a k) cs w):=
 step_lone_go (by simp [stepG,stepG.exec,Frame.atR])
def IY(h:c.wpIn F n P (Exit.noGoto aF) a w):(Code.scope c).wpIn F n P aF a w:=by
 intro b k cs hro H hr
 have h0:(lone (b.atR a (.code (.scope c)::k)) cs w).fenced P F:=fenced_calm H hr rfl
 obtain⟨e,a₁,w₁,hq,harr⟩:=h b (.inScope c::k) cs hro H hr
 cases e with
 |normal=>exact⟨.normal,a₁,w₁,hq,.head h0 nF (StepsIn.trans harr (.one (fenced_calm H hr rfl) D0))⟩
 |exit id=>
  have D:exitTo id (.inScope c::k)=exitTo id k:=by simp [exitTo]
  exact⟨.exit id,a₁,w₁,hq,fun k' hk=> .head h0 nF (harr.1 k' (by rw [D];exact hk)),
   fun hr' hk=>let⟨k₁,A,V⟩:=harr.2 hr' (by rw [D];exact hk);⟨k₁,A,.head h0 nF V⟩⟩
 |goto l=>exact hq.elim
 |ret=>exact⟨_,a₁,w₁,hq,.of_steps (.one h0 nF) harr⟩
 |panic ch=>exact⟨_,a₁,w₁,hq,.of_steps (.one h0 nF) harr⟩
 |outgrown=>exact⟨_,a₁,w₁,hq,.of_steps (.one h0 nF) harr⟩
end
section
def IL(h:CG E (Exit.noGoto aF) c O G):CG E aF (.scope c) O G:=fun a w S st=>IY (h a w S st)
def IM{l:Nat}(h:AT E aF .normal O G):CG E aF (.label l) O G:=fun a w S st=>wpIn_label (h a w S st)
def Ar(h:AT E aF .ret O G):AT E (Exit.noGoto aF) .ret O G:=h
end

def Gc [Inhabited α](h:i<m):g9 (n8 r m) (i*r.sz) r (fun x=>(x[i]?).getD default):=fun S cs x ⟨A,V⟩=>by
 have hi:x[i]? =some ((x[i]?).getD default):=by rw [kQ (by omega)];rfl
 exact yn V hi
def RS [DecidableEq α] [Inhabited α]{t e:Nat}(M:P.underlying t=some (.array m e))(ti:TI P e sz bytes agg z)(hsz:r.sz=sz)(hag:r.agg=agg)(he:ki P e r n):ki P t (n8 r m) (n+1):=fun S cs ds x y d w D hy=>by
 obtain⟨i,zv,hi,hs,_⟩:=ti.get
 have hcell:P.cellsOf e=r.sz:=by unfold Program.cellsOf;rw [hi];simp [hs,hsz]
 have e1:(n8 r m).val cs= .agg cs.toArray:=rfl
 have e2:(n8 r m).val ds= .agg ds.toArray:=rfl
 rw [e1,e2,show d+(n+1)=(d+n)+1 from rfl,run_equalIn_array w (d+n) cs.toArray ds.toArray M hi,List.range_eq_range',hcell]
 have key: ∀k j,j+k=m->(Op.eqItems (d+n) e r.sz cs.toArray ds.toArray (List.range' j k)).run P w= .ok (decide (x.drop j=y.drop j)) w:=by
  intro k
  induction k with
  |zero=>
   intro j hj
   rw [su (by have:=D.1;omega),su (by have:=hy.1;omega)]
   rfl
  |succ k ih=>
   intro j hj
   have hjx:j<x.length:=by have:=D.1;omega
   have hjy:j<y.length:=by have:=hy.1;omega
   have A:=p6 ti hsz hag (Gc (r:=r) (m:=m) (i:=j) (by omega)) D w
   have V:=p6 ti hsz hag (Gc (r:=r) (m:=m) (i:=j) (by omega)) hy w
   have h3:=he S _ _ _ _ d w (Gc (r:=r) (m:=m) (i:=j) (by omega) S cs x D) (Gc (r:=r) (m:=m) (i:=j) (by omega) S ds y hy)
   rw [List.range'_succ]
   unfold Op.eqItems
   simp only [ow,A,V,h3,pl]
   have ex:x.drop j=(x[j]?).getD default::x.drop (j+1):=by rw [kQ hjx];exact wN hjx
   have ey:y.drop j=(y[j]?).getD default::y.drop (j+1):=by rw [kQ hjy];exact wN hjy
   rw [ex,ey]
   by_cases hq:(x[j]?).getD default=(y[j]?).getD default
   ·simp only [hq,decide_true,pi,j0,iB]
    rw [ih (j+1) (by omega)]
    congr 1
    simp
   ·simp [hq]
 have:=key m 0 (by omega)
 simpa using this
section
variable{ty:TypeId}
def qj{xs:List Operand}{sz' bytes' :Nat}{agg' :Bool}{z' :List Value}(M:E.P.underlying t=some (.array m T))(ti:TI E.P T sz bytes agg z)(hsz:r.sz=sz)(tj:TI E.P t sz' bytes' agg' z')(hz:z'.length=m*r.sz)(hm:m=ys.length)(D:iA E.N G xs (ys.map (K r))):bM E O G ⟨dst,.build t (wD 0 xs).toArray,ty,pos,after,g⟩ (K (n8 r m) ys):=
 .of_pure fun a w S _ _ hF=>by
  obtain⟨zv,hzr,hzc⟩:=tj.zero w
  obtain⟨cs,hc,hfill⟩:=C5 ys (xs.map a.eval) 0 [] z' (D.tys hF) (by simp) (by rw [hz,hm])
  subst hsz
  have hparts:((wD 0 xs).toArray.map fun(i,x)=>(i,a.eval x)).toList=AS 0 (xs.map a.eval):=by simpa using Ad a.eval 0 xs
  rw [nj,nj]at hfill
  refine⟨.agg cs.toArray,?_,cs,rfl,hm.symm,hc⟩
  simp only [execOp,Instr.build,ow,hzr,pl,gP M,ti.sizeOf,hzc,hparts,hfill]
  simp
end
end Go.Proofs.YthbdkceckjihgaaGreatDoor

