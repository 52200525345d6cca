import Derived.Test.YtadeokalnbmppaaGreatDoorReV1
import Derived.RangeFuncRecord
import Derived.RangeFuncLeaves
import Derived.Laws.StructEq
import Derived.Lib.ConvBytes
import Derived.Lib.AppendZeros
import Derived.Laws.MakeOwn
set_option linter.all false
namespace Go.Proofs.YtadeokalnbmppaaGreatDoor
open Go IntKind
variable{B:Nat->Prop}{O:List OE}{S S' :SH}{b base:Nat}{e:TypeId}{f:FuncId}{k:IntKind}{w w' :World}
def rR(h:dR base B w S O)(k:ji sq w S w' S'){e:OE}(he:e.p w' S')(hn: ∀b,e.fp b->w.heap.size<=b)(K:base<=w.heap.size:=by first|assumption|exact St.H_ (by assumption)):dR base B w' S' (e::O):=
 ⟨⟨he,fun b hb' => .inl (pG K (hn b hb'))⟩,fun f Q b hb' hfb=>by
  have:=f.here (dR.mem h f Q).1 b hfb;have:=hn b hb';omega,h.ext0 k⟩
def mi(P:Program)(f:FuncId)(ts:List Ty)(mm:Bool){α:Type}(r:Rp α)(T:TypeId)(xs:List α):Prop:=
 ∀w S vs,kQ w S->yw S ts vs->Calls P f vs.toArray w fun e w' => ∃l cap S',e= .returned (ak l cap xs.length)/\ji sq w S w' S' /\kQ w' S' /\(nU mm r T l cap xs).holds w.heap.size sq w' S'
variable{T:TypeId}{α:Type}{cap:Nat}{l:Option Nat}{mm:Bool}{p:Operand}{r:Rp α}{xs:List α}
def Pj(h:(nU mm r T l cap xs).holds w.heap.size sq w' S')(he:ji sq w S w' S')(hs:kQ w' S'):
  ∃S'',ji sq w S w' S'' /\kQ w' S'' /\(tD (eW r) xs).p S'' (ak l cap xs.length):=by
 have st:St ⟨default,⟨0,[]⟩,sq,w,S,none⟩ [nU mm r T l cap xs] [] ⟨#[],[]⟩ w' S' :=⟨he,hs,⟨h,fun _ Q=>(by cases Q),trivial⟩,⟨rfl,rfl,fun _ _ h=>(by simp [look]at h)⟩⟩;obtain⟨S'',D,V⟩:=st.settle;exact⟨S'',D.ext,D.sat,V⟩
variable{P:Program}{ts:List Ty}
def mi.spec(h:mi P f ts mm r T xs):cN P f ts (tD (eW r) xs):=fun w S vs hs hv=>
 (h w S vs hs hv).mono fun e w' ⟨l,cap,S',he,D,V,Z⟩=>by
  obtain⟨S'',h4,h5,h6⟩:=Pj Z D V;exact⟨_,S'',he,h4,h5,h6⟩
def ado(E:En)(mm:Bool){α:Type}(r:Rp α)(T:TypeId)(xs:List α):Ending->World->Prop:=fun e w' => ∃l cap S',e= .returned (ak l cap xs.length)/\ji E.B E.w0 E.S0 w' S' /\kQ w' S' /\(nU mm r T l cap xs).holds E.w0.heap.size E.B w' S'
variable{N:Nat}{S0:SH}{c:Code}{fn:Func}{n:Nat}{w0:World}
def mi.of(Q:P.funcs[f]? =some fn)(K:fn.body=some c)(hN:fn.ntmps=N)(hn:Nat.ble ts.length N=true)(h: ∀w0 S0,CG ⟨P,⟨N,[]⟩,sq,w0,S0,none⟩ (bodyPost P fn (ado ⟨P,⟨N,[]⟩,sq,w0,S0,none⟩ mm r T xs)) c [] (wE 0 ts)):mi P f ts mm r T xs:=by
 subst hN;intro w S vs hs hv;exact nG.1 (GF (F:=fw none) (n:=0) Q K trivial (h w S _ w S ⟨ji.refl _ _ _,hs,trivial,qU hv _ (rx hn)⟩))
variable{E:En}{G:oz}{hf:Exit->Act->World->Prop}{a:Act}{after:Array Edge}{agg:Bool}{ats:Array TypeId}{bytes d off:Nat}{ops:Array Oper}{pos:String}{rest:List Oper}{sz:Nat}{t:TypeId}{x:Operand}{ys:List α}{z:List Value}
section
def lR{k:Nat}(hr:fn.results= #[.tmp k])(hk:look G k=some (tV (ak l cap n)))(hn:n=xs.length:=by rfl):
  AT ⟨P,⟨N,[]⟩,B,w0,S0,none⟩ (bodyPost P fn (ado ⟨P,⟨N,[]⟩,B,w0,S0,none⟩ mm r T xs)) .ret (nU mm r T l cap xs::O) G:=fun a w S st=>by
 subst hn;have hv:a.tmps.getD k undef=ak l cap xs.length:=st.facts.h_ k _ hk;exact⟨st.facts.defers,_,pZ P fn k hr _ _,l,cap,S,by rw [hv],st.ext,st.sat,st.own.1⟩
section
variable{ty:TypeId}
def Uf{xs:List Operand}{u:Nat->Option Nat->Ty}(hc:af E.P f=true)(hs:mi E.P f ts mm r T ys)(I:k5 E.N G xs ts)(hd:Nat.blt d E.N.n=true)(hu: ∀l cap w0 S,(nU mm r T l cap ys).p w0 S->(u cap l).p S (ak l cap ys.length))(k: ∀l cap,RG E ops hf rest (nU mm r T l cap ys::O) ((d,u cap l)::G)):
  RG E ops hf (⟨some d,.call ⟨.value (.func f),xs.toArray,ats⟩,ty,pos,after,none⟩::rest) O G:= .of rfl fun a w S st=>by
 have hr:(execOp a.eval ⟨some d,.call ⟨.value (.func f),xs.toArray,ats⟩,ty,pos,after,none⟩).run E.P w= .ok (.enter f (xs.map a.eval).toArray) w:=by
  simp [execOp,resolve,Act.eval,Deferred.ofValue,invoke,gT hc]
 refine⟨fun c h=>(by cases h),?_⟩;rw [hr];refine(hs w S _ st.sat (I.tys st.facts)).mono fun e w' ⟨l,cap,S',he,D,V,Z⟩=>⟨_,he,?_⟩;refine k l cap _ _ S' ⟨st.ext.step0 D,V,rR st.own D Z.1 (fun b K=>(Z.2 b K).resolve_right id) st.H_,(st.facts.mono D.keep).put hd (hu l cap w' S' Z.1)⟩
def Wz{xs:List Operand}(hc:af E.P f=true)(hs:mi E.P f ts false r T ys)(I:k5 E.N G xs ts)(hd:Nat.blt d E.N.n=true)(k: ∀l cap,RG E ops hf rest (fa r T l cap ys::O) ((d,tV (ak l cap ys.length))::G)):
  RG E ops hf (⟨some d,.call ⟨.value (.func f),xs.toArray,ats⟩,ty,pos,after,none⟩::rest) O G:=Uf (u:=fun cap l=>tV (ak l cap ys.length)) hc hs I hd (fun _ _ _ _ _=>rfl) k
def pF{xs:List Operand}{parts:List (Nat×Operand)}(Y:E.P.underlying t=some (.slice T))(ti:TI E.P T sz bytes agg z)(k_:r.sz=sz)(h0:Nat.blt 0 sz=true)(hp:parts=BY 0 xs)(hn:n=ys.length)(K:Nat.ble (n*sz) 16777216=true)(I:k5 E.N G xs (ys.map (tD r)))(hd:Nat.blt d E.N.n=true)(k: ∀l cap,RG E ops hf rest (fa r T l cap ys::O) ((d,tV (ak l cap ys.length))::G)):
  RG E ops hf (⟨some d,.buildSlice t n parts.toArray,ty,pos,after,none⟩::rest) O G:= .of rfl fun a w S st=>by
 obtain⟨cs,hc,hr⟩:=Af Y ti k_ hn K (I.tys st.facts) w;subst k_;subst hp;have hb' :=rx K;have h0' :0<r.sz:=by simpa [xS] using h0
 have hnle:n<=n*r.sz:=Nat.le_mul_of_pos_right n h0';have hcl:=pM hc;obtain⟨he,hs',G_⟩:=gb (w:=w) (.cells cs.toArray T (0,0)) st.sat;have u_:(execOp a.eval ⟨some d,.buildSlice t n (BY 0 xs).toArray,ty,pos,after,none⟩).run E.P w= .ok (.value (.slice (some ⟨w.heap.size,0,none⟩) n n)) (w.alloc (.cells cs.toArray T (0,0))):=by
  simp only [execOp,uc,hr,vm,GE]
 refine⟨fun c h=>(by cases h),?_⟩;rw [u_];refine k (some w.heap.size) n _ _ S ⟨st.ext.step0 he,hs',rR st.own he ⟨cs,⟨cs.toArray,xU w _,by omega,by simp only [maxLen];omega,by simp [hcl,hn],by simp [<-hcl]⟩,hc,fun b K=>by rw [<-qr K];exact G_⟩ (fun b K=>BD (qr K)) st.H_,st.facts.put hd ?_⟩
 ·show _=ak _ _ _;rw [<-hn];rfl
def yy{yt:TypeId}(Y:E.P.underlying t=some (.slice e))(I:aG E.N G x (tD (eW r) xs))(hd:Nat.blt d E.N.n=true)(k: ∀b,(b=true->xs=[])->RG E ops hf rest O ((d,tD rB b)::G)):RG E ops hf (⟨some d,.binOp .eql t x (.const (.slice none 0 0)) yt,ty,pos,after,none⟩::rest) O G:= .of rfl fun a w S st=>by
 obtain⟨ad,cap,D,_,_,V⟩:=oV.1 (I S a st.facts);have u_:(execOp a.eval ⟨some d,.binOp .eql t x (.const (.slice none 0 0)) yt,ty,pos,after,none⟩).run E.P w= .ok (.value (.bool ad.isNone)) w:=by
  have Z:(Op.equal t (.slice ad xs.length cap) (.slice none 0 0)).run E.P w= .ok ad.isNone w:=C5 fun d=>by
   cases ad<;>simp [Op.equalIn,lc Y]
  have hcn:a.eval (.const (.slice none 0 0))= .slice none 0 0:=rfl;simp [execOp,D,hcn,eqGuard,binOp,Z]
 refine⟨fun c h=>(by cases h),?_⟩;rw [u_];refine k ad.isNone (fun e=>?_) _ _ S (st.step (ji.refl _ _ _) st.sat hd (jN.2 rfl));rcases V with V|⟨b,off,c,T,fr,e1,_⟩
 ·exact V
 ·subst e1;cases e
end
end
def an(b off:Nat):Value:= .pointer (some ⟨b,off,none⟩)
def bx{α:Type}(r:Rp α)(T:TypeId)(b:Nat)(x:α):OE where
 fp:=fun k=>k=b
 p:=fun w S=>S b=none/\ ∃c,w.heap[b]? =some (.cells c T (0,0))/\r.rc S c.toList x
 here:=by
  intro w S h k hk;subst hk;obtain⟨D,c,V,_⟩:=h;exact(s9.1 V).1
 kept:=by
  intro C w w' S S' h k hC;obtain⟨D,c,V,Z⟩:=h;have o_:=(s9.1 V).1;exact⟨by rw [k.old b o_ (hC b rfl)];exact D,c,by rw [k.heap b o_ (hC b rfl)];exact V,r.mono k.keep Z⟩
def rV:Rp Value where
 sz:=1
 agg:=false
 rc:=fun _ cs v=>cs=[v]/\v.oneCell' =true
 mono:=fun _ h=>h
 len:=fun h=>by rw [h.1];rfl
 one:=fun h c hc=>by rw [h.1]at hc;simp at hc;subst hc;exact h.2
 sc:=fun _=>rfl
def yS{u:Value}{v:Value}:(tD rV u).p S v↔v=u/\u.oneCell' =true:=by
 constructor
 ·rintro⟨cs,rfl,D,V⟩;subst D;exact⟨rfl,V⟩
 ·rintro⟨rfl,h⟩;exact⟨[v],rfl,rfl,h⟩
def gn{α β:Type}(r:Rp α)(off:Nat)(q:Rp β)(set:α->β->α):Prop:= ∀S cs x ds y,r.rc S cs x->q.rc S ds y->r.rc S (cs.take off++ds++cs.drop (off+q.sz)) (set x y)
variable{U:TypeId}{dst:Option Tmp}{g:Option (Nat×Bool)}{β:Type}{get:α->β}{i:Nat}{o:Oper}{q:Rp β}{y:α}
section
variable{e:Exit}
def St.settleB{k:Nat}{x:α}(h:St E (bx r T b x::O) G a w S)(hk:look G k=some (tV (an b 0))): ∃S',St E O ((k,aY r x)::G) a w S' :=by
 obtain⟨⟨hn,cur,Z,h4⟩,_⟩:=h.own.1;obtain⟨h8,hle,_,_⟩:=Cj h rfl Z (wy _) hn;have hv:a.tmps.getD k undef=an b 0:=h.facts.h_ k _ hk;refine⟨_,h8.cons ⟨b,0,cur,T,(0,0),hv,by simp [SH.set],?_⟩⟩;have hl:cur.size=r.sz:=by have:=r.len h4;simpa using this
 have:=r.mono hle h4;rw [vj,s8 (by simp [hl])];exact this
def aH{x:α}(k:Nat)(hk:look G k=some (tV (an b 0)))(h:RG E ops hf rest O ((k,aY r x)::G)):RG E ops hf rest (bx r T b x::O) G:=
 fun a w _ st=>let⟨S',st'⟩:=st.settleB hk;h a w S' st'
def ce{x:α}(k:Nat)(hk:look G k=some (tV (an b 0)))(h:AT E hf e O ((k,aY r x)::G)):AT E hf e (bx r T b x::O) G:=
 fun a w _ st=>let⟨S',st'⟩:=st.settleB hk;h a w S' st'
section
variable{ty:TypeId}
def aO{x:α}(ti:TI E.P T sz bytes agg z)(I: ∀S,r.rc S z x)(hd:Nat.blt d E.N.n=true)(k: ∀b,RG E ops hf rest (bx r T b x::O) ((d,tV (an b 0))::G)):RG E ops hf (⟨some d,.alloc T,ty,pos,after,none⟩::rest) O G:= .of rfl fun a w S st=>by
 obtain⟨zv,hzr,hzc⟩:=ti.zero w;obtain⟨he,hs',G_⟩:=gb (w:=w) (.cells z.toArray T (0,0)) st.sat;have u_:(execOp a.eval ⟨some d,.alloc T,ty,pos,after,none⟩).run E.P w= .ok (.value (an w.heap.size 0)) (w.alloc (.cells z.toArray T (0,0))):=by
  simp [execOp,Instr.alloc,hzr,newVar,newRow,hzc,an]
 refine⟨fun c h=>(by cases h),?_⟩;rw [u_];exact k w.heap.size _ _ S ⟨st.ext.step0 he,hs',rR st.own he ⟨G_,z.toArray,xU w _,by simpa using I S⟩ (fun b K=>BD K.symm) st.H_,st.facts.put hd rfl⟩
def tU{v:α}(I:aG E.N G x (tD r v))(hd:Nat.blt d E.N.n=true)(k: ∀b,RG E ops hf rest (bx r T b v::O) ((d,tV (an b 0))::G)):RG E ops hf (⟨some d,.box T x,ty,pos,after,none⟩::rest) O G:= .of rfl fun a w S st=>by
 obtain⟨cs,hv,hc⟩:=I S a st.facts;obtain⟨he,hs',G_⟩:=gb (w:=w) (.cells cs.toArray T (0,0)) st.sat;have u_:(execOp a.eval ⟨some d,.box T x,ty,pos,after,none⟩).run E.P w= .ok (.value (an w.heap.size 0)) (w.alloc (.cells cs.toArray T (0,0))):=by
  simp [execOp,Instr.box,newVar,newRow,hv,xW hc,an]
 refine⟨fun c h=>(by cases h),?_⟩;rw [u_];exact k w.heap.size _ _ S ⟨st.ext.step0 he,hs',rR st.own he ⟨G_,cs.toArray,xU w _,by simpa using hc⟩ (fun b K=>BD K.symm) st.H_,st.facts.put hd rfl⟩
def q8(hs:kQ w S)(f f' :OE)(h:dR base B w S (f::O))(Q: ∀k,f.fp k↔k=b)(hf' : ∀k,f'.fp k↔k=b)(H:w'.os=w.os/\w'.tape=w.tape/\w'.output=w.output/\w'.heap.size=w.heap.size/\w.drawn<=w'.drawn)(ho: ∀k,k≠b->w'.heap[k]? =w.heap[k]?)(hp:f'.p w' S)(G_:S b=none):ji (fun k=>k=b) w S w' S/\kQ w' S/\dR base B w' S (f' ::O):=by
 have x_:ji (fun k=>k=b) w S w' S:=⟨H.1,H.2.1,H.2.2.1,H.2.2.2.2,by omega,fun k _ hk=>ho k hk,SH.le_refl _,fun _ _ _=>rfl⟩;refine⟨x_,hs.same fun k o hk=>?_,⟨hp,fun k hk=>h.1.2 k ((Q k).2 ((hf' k).1 hk))⟩,fun g hgm k hk=>h.2.1 g hgm k ((Q k).2 ((hf' k).1 hk)),h.2.2.ext x_ fun g hgm k hk hkb=>h.2.1 g hgm k ((Q k).2 hkb) hk⟩;have Q_:k≠b:=fun e=>by subst e;rw [G_]at hk;cases hk
 exact ho k Q_
def nV{q:Rp α}(ti:TI P U sz bytes agg z)(k_:q.sz=sz){ds:List Value}(hy:q.rc S ds y){cur:Array Value}(H:w.heap[b]? =some (.cells cur T (0,0)))(hfit:off+q.sz<=cur.size):
  ∃w',(storeVar U ⟨b,off,none⟩ (q.val ds)).run P w= .ok () w' /\w'.os=w.os/\w'.tape=w.tape/\w'.output=w.output/\(w'.heap.size=w.heap.size/\w.drawn<=w'.drawn)/\w'.heap[b]? =some (.cells (cur.toList.take off++ds++cur.toList.drop (off+q.sz)).toArray T (0,0))/\ ∀k,k≠b->w'.heap[k]? =w.heap[k]? :=by
 have hl:=q.len hy;have hst:=run_storeCells_at P b off T ds 0 cur w H (by omega) (q.one hy);simp only [wV]at hst;refine⟨w.setRow b (cur.toList.take off++ds++cur.toList.drop (off+ds.length)).toArray,?_,rfl,rfl,rfl,⟨?_,eX _⟩,?_,fun k hk=>setRow_other w b k _ hk⟩
 ·generalize (cur.toList.take off++ds++cur.toList.drop (off+ds.length)).toArray=X at hst ⊢;simp only [storeVar,uc,ti.sizeOf,vm,xW hy,IS,hl,k_];simp only [ne_eq,not_true_eq_false,lS];simpa using hst
 ·simp [World.setRow]
 ·rw [setRow_heap w b cur _ T _ H,<-hl]
def dZ{set:α->β->α}{x:α}{y:β}{v:Operand}(ti:TI E.P U sz bytes agg z)(k_:q.sz=sz)(I_:gn r off q set)(hoff:Nat.ble (off+q.sz) r.sz=true)(hp:aG E.N G p (tV (an b off)))(hv:aG E.N G v (tD q y))(k:RG E ops hf rest (bx r T b (set x y)::O) G):RG E ops hf (⟨none,.store U p v,ty,pos,after,none⟩::rest) (bx r T b x::O) G:= .of rfl fun a w S st=>by
 have D:a.eval p=an b off:=hp S a st.facts;obtain⟨ds,V,Z⟩:=hv S a st.facts;obtain⟨⟨G_,cur,h5,h6⟩,_⟩:=st.own.1;have hl:=r.len h6;have hoff' :=rx hoff;obtain⟨w',hr,e1,e2,e3,e4,e5,e6⟩:=nV ti k_ Z h5 (off:=off) (by simp at hl;omega);have u_:(execOp a.eval ⟨none,.store U p v,ty,pos,after,none⟩).run E.P w= .ok .skip w' :=by
  simp [execOp,D,V,Instr.storeAt,an,Instr.sureAddr,hr]
 refine⟨fun c h=>(by cases h),?_⟩;rw [u_];obtain⟨g1,g2,g3⟩:=q8 (O:=O) st.sat (bx r T b x) (bx r T b (set x y)) st.own (fun _=>wh) (fun _=>wh) ⟨e1,e2,e3,e4.1,e4.2⟩ e6 ⟨G_,_,e5,by simpa using I_ S _ _ _ _ h6 Z⟩ G_;exact k _ _ S ⟨st.ext.step g1 (fun c hc=>st.own.1.2 c hc),g2,g3,st.facts⟩
def ae:gn r 0 r (fun _ y=>y):=fun S cs x ds y D V=>by
 have hl:=r.len D;simpa [<-hl] using V
end
section
variable{ty:TypeId}
def Iy{o:Nat}(Q:cb E.P T i=some (off,sz))(h0:Nat.beq sz 0=false)(hp:aG E.N G p (tV (an b o))):ck E O G ⟨dst,.fieldAddr T p i,ty,pos,after,g⟩ (tV (an b (o+off))):=
 .of_pure fun a w S _ _ hF=>by
  have D:a.eval p=an b o:=hp S a hF;obtain⟨fs,f,e1,e2,e3,e4⟩:=Et Q;have h0' :sz≠0:=fun e=>by subst e;simp at h0
  refine⟨an b (o+off),?_,rfl⟩;simp [execOp,D,an,Instr.fieldAt,lc e1,e2,Instr.sureAddr,fieldPlace,e4,h0',e3,kL]
def ay{x:α}(ti:TI E.P U sz bytes agg z)(k_:q.sz=sz)(hag:q.agg=agg)(hget:mT r off q get)(hm:bx r T b x∈O)(hp:aG E.N G p (tV (an b off))):
  ck E O G ⟨dst,.load U p,ty,pos,after,g⟩ (tD q (get x)):=
 .of_pure fun a w S _ ho Q=>by
  have D:a.eval p=an b off:=hp S a Q;obtain⟨⟨_,cur,h5,h6⟩,_⟩:=ho.mem _ hm;have h7:=hget S _ _ h6;refine⟨_,?_,_,rfl,h7⟩;simp [execOp,D,an,Instr.loadAt,Instr.sureAddr,nv ti h5 k_ hag h7]
def bC:mT r 0 r (fun x=>x):=fun S cs x h=>by
 have hl:=r.len h;simpa [<-hl] using h
end
end
def cT{p:Rp α}:gn (cu p q) 0 p (fun x y=>(y,x.2)):=fun S cs x ds y h k=>by
 obtain⟨a,b,e,D,V⟩:=h;have hl:=p.len D;refine⟨ds,b,?_,k,V⟩;rw [e,<-hl];simp
variable{γ:Type}{s:Rp γ}
def aA{p:Rp α}{off' :Nat}{u:β->γ->β}(h:gn q off s u)(ho:off' =p.sz+off):gn (cu p q) off' s (fun x y=>(x.1,u x.2 y)):=fun S cs x ds y I hy=>by
 obtain⟨a,b,e,D,V⟩:=I;have hl:=p.len D;refine⟨a,b.take off++ds++b.drop (off+s.sz),?_,D,h S b x.2 ds y V hy⟩;rw [e,ho,<-hl,List.take_length_add_append,show a.length+off+s.sz=a.length+(off+s.sz)from by omega,List.drop_length_add_append];simp
def bW{p:Rp α}{q:Rp γ}{u:α->γ->α}{f:β->α}{set:β->γ->β}(h:gn p off q u)(Q: ∀x y,f (set x y)=u (f x) y):gn (nS p f) off q set:=fun S cs x ds y I hy=>by
 show p.rc S _ (f (set x y));rw [Q];exact h S cs (f x) ds y I hy
def ki(P:Program)(T:TypeId):Option (List (Nat×Nat)):=
 match P.underlying T with
 |some (.struct fs)=>fs.toList.mapM fun f=>(P.info? f.type).map fun q=>(f.offset,q.size)
 |_=>none
def Ha{P:Program}: ∀(fs:List Field) (ps:List (Nat×Nat)) (w:World),fs.mapM (fun f=>(P.info? f.type).map fun q=>(f.offset,q.size))=some ps->
  (fs.mapM (fun f=>do pure (f.offset,<-sizeOf f.type):Field->Sem (Nat×Nat))).run P w= .ok ps w
 |[],ps,w,h=>by
  simp at h;subst h;simp
 |f::fs,ps,w,h=>by
  simp only [List.mapM_cons]at h ⊢
  cases hq:P.info? f.type with
  |none=>simp [hq]at h
  |some q=>
   cases hr:fs.mapM (fun f=>(P.info? f.type).map fun q=>(f.offset,q.size))with
   |none=>simp [hq,hr]at h
   |some qs=>
    simp [hq,hr]at h;subst h;have ih:=Ha fs qs w hr;simp [sizeOf,typeInfo,hq]at ih ⊢;simp [ih]
section
variable{ty:TypeId}
def BP(E:En)(G:oz){α:Type}(r:Rp α)(ps:List (Nat×Nat)):α->List (Nat×Operand)->α->Prop
 |x,[],y=>x=y
 |x,(i,o)::rest,y=> ∃(β:Type) (q:Rp β) (set:α->β->α) (off:Nat) (v:β),ps[i]? =some (off,q.sz)/\gn r off q set/\Nat.ble (off+q.sz) r.sz=true/\aG E.N G o (tD q v)/\BP E G r ps (set x v) rest y
def HM{α:Type}{r:Rp α}{ps:List (Nat×Nat)}{S:SH}{a:Act}(hF:cH E.N S a G): ∀(parts:List (Nat×Operand)) (x y:α) (cs:List Value),BP E G r ps x parts y->r.rc S cs x->
  ∃ds,r.rc S ds y/\Instr.fill (ps.toArray[·]?) cs.toArray (parts.map fun p=>(p.1,a.eval p.2))=some ds.toArray
 |[],x,y,cs,h,I=>by
  have e:x=y:=h;subst e;exact⟨cs,I,rfl⟩
 |(i,o)::rest,x,y,cs,⟨β,q,set,off,v,D,V,Z,h4,h5⟩,I=>by
  obtain⟨c,hv,hc⟩:=h4 S a hF;have hl:=q.len hc;have hlr:=r.len I;have h3' :=rx Z;have hcells:(a.eval o).cells=c.toArray:=by rw [hv];exact xW hc
  obtain⟨ds,h6,h7⟩:=HM hF rest _ y _ h5 (V S cs x c v I hc);refine⟨ds,h6,?_⟩;have hps:ps.toArray[i]? =some (off,q.sz):=by simpa using D
  have hs:(a.eval o).cells.size=q.sz:=by rw [hcells];simpa using hl
  have h8:=C0 (a.eval o) off (cs.take off) ((cs.drop off).take q.sz) (cs.drop (off+q.sz)) (by rw [hs];simp;omega) (by simp;omega);have e1:cs.take off++(cs.drop off).take q.sz++cs.drop (off+q.sz)=cs:=by
   rw [gJ,<-vE,vn,vn]
  rw [e1]at h8;simp only [vi,Instr.fill,hps];rw [aZ (by simp [hs,hlr];omega),h8,hcells];simpa using h7
def dl{x:α}{parts:List (Nat×Operand)}{ps:List (Nat×Nat)}(ti:TI E.P T sz bytes agg z)(hp:ki E.P T=some ps)(hz: ∀S,r.rc S z x)(K:BP E G r ps x parts y)(ha:r.agg=true:=by rfl):
  ck E O G ⟨dst,.build T parts.toArray,ty,pos,after,g⟩ (tD r y):=
 .of_pure fun a w S _ _ hF=>by
  obtain⟨zv,hzr,hzc⟩:=ti.zero w;obtain⟨ds,D,V⟩:=HM hF parts x y z K (hz S);unfold ki at hp;split at hp
  ·rename_i fs hu;have hpl:=Ha fs.toList ps w hp;have hpl2:(fs.mapM (fun f=>do pure (f.offset,<-sizeOf f.type):Field->Sem (Nat×Nat))).run E.P w= .ok ps.toArray w:=by
    have hfs:fs=fs.toList.toArray:=by simp
    generalize fs.toList=l at hfs hpl;subst hfs;rw [List.mapM_toArray,Sem.run_map,hpl];rfl
   refine⟨.agg ds.toArray,?_,ds,(vJ ha ds).symm,D⟩;simp only [execOp,Instr.build,uc,hzr,vm,lc hu,hpl2,hzc];have hm:(parts.toArray.map fun(i,x)=>(i,a.eval x)).toList=parts.map fun p=>(p.1,a.eval p.2):=by simp
   rw [hm,V];simp
  ·cases hp
end
section
def gF{k:Nat}{x:α}(hr:fn.results= #[.cell k T])(ti:TI P T sz bytes agg z)(k_:r.sz=sz)(hag:r.agg=agg)(hk:look G k=some (aY r x)):
  AT ⟨P,⟨N,[]⟩,B,w0,S0,none⟩ (bodyPost P fn (IE ⟨P,⟨N,[]⟩,B,w0,S0,none⟩ (tD r x))) .ret O G:=fun a w S st=>by
 obtain⟨b,off,c,U,fr,D,V,Z⟩:=st.facts.h_ k _ hk;obtain⟨c',h4,h5⟩:=st.sat.part V (r.len Z);rw [<-h5]at Z;refine⟨st.facts.defers,r.val ((c'.toList.drop off).take r.sz),?_,_,S,rfl,st.ext,st.sat,_,rfl,Z⟩;have hl:=nv ti h4 k_ hag Z;have h1' :a.tmps[k]?.getD undef=Value.pointer (some ⟨b,off,none⟩):=by simpa [Ka] using D
 simp [results,hr,h1',asAddr,hl]
end
def qy(L:List Oper):Nat->Nat->Nat->Bool
 |0,_,_=>false
 |n+1,i,j=>match L[i]? with
  |some o=>o.after.toList.any fun e=>Region.binds .any e&&(Nat.beq e.on j||qy L n e.on j)
  |none=>false
def zu(L:List Oper)(m:Nat):Bool:=(List.range m).all fun j=>qy L L.length m j
def BM(L:List Oper)(n k:Nat):Bool:=(List.range k).all fun m=>zu L (n+m)&&(match L[n+m]? with|some o=>fU (n+m) o&&o.guard.isNone|none=>false)
variable{L:List Oper}{done:Array Bool}{hi j:Int}
def jk{L:List Oper}{done:Array Bool}(down: ∀j o,L[j]? =some o->done.getD j false=true-> ∀e∈o.after,Region.binds .any e=true->done.getD e.on false=true):
  ∀(n i j:Nat),(∀o,L[i]? =some o-> ∀e∈o.after,Region.binds .any e=true->done.getD e.on false=true)->qy L n i j=true->done.getD j false=true
 |0,_,_,_,h=>by cases h
 |n+1,i,j,hi,h=>by
  unfold qy at h
  cases ho:L[i]? with
  |none=>rw [ho]at h;cases h
  |some o=>
   rw [ho]at h;obtain⟨e,he0,K⟩:=zO.1 h;have he:e∈o.after:=by simpa using he0
   rw [jJ,zR]at K;have hd:=hi o ho e he K.1;rcases K.2 with D|D
   ·rw [<-rm D];exact hd
   ·exact jk down n e.on j (fun p hp=>down e.on p hp hd) D
def DJ.stepT{l:List Oper}(h:DJ E O G l ts done a w S){t:Ty}{v:Value}(hi:l[i]? =some o)(hd:o.dst=some d)(hdN:d<E.N.n)(hs2: ∀j p,l[j]? =some p->done.getD j false=true->p.dst=some d->i=j)(t_: ∀e∈o.after,Region.binds .any e=true->done.getD e.on false=true)(Y:ts[i]? =some t)(hun:done.getD i true=false)(x_:ji sq w S w' S')(C_:kQ w' S')(hv:t.p S' v):DJ E O G l ts (done.setIfInBounds i true) (a.put o.dst v) w' S' :=by
 have hda:d<a.tmps.size:=by rw [h.size];exact hdN
 have o_:i<done.size:=by rw [h.dsz];exact(oC.1 hi).1
 have I_: ∀j,(done.setIfInBounds i true).getD j false=true->j=i\/done.getD j false=true:=fun j hj=>by
  by_cases hij:i=j
  ·exact .inl hij.symm
  ·rw [zC false hij]at hj;exact .inr hj
 have hseti:(done.setIfInBounds i true).getD i false=true:=by simp [o_]
 have hun' :done.getD i false=false:=by simp [o_]at hun ⊢;exact hun
 refine⟨h.ext.step0 x_,C_,h.own.ext0 x_,?_,?_,by simp [h.dsz],fun j p hj e_ e he K=>?_,fun k u hk G_=>?_,fun j p d' u hj e_ hd' hu=>?_⟩
 ·rw [hd];simp [Act.put,h.size]
 ·rw [hd];exact h.defers
 ·rcases I_ j e_ with rfl|hj'
  ·rw [hi]at hj;have:o=p:=by simpa using hj
   subst this;exact Bp (t_ e he K)
  ·exact Bp (h.down j p hj hj' e he K)
 ·have Q_:d≠k:=fun e=>G_ i o hi hseti (by rw [hd,e]);rw [hd,xj hda,aZ Q_];exact u.mono x_.keep (h.old k u hk fun j p hj e_=>G_ j p hj (Bp e_))
 ·rw [hd,xj hda];rcases I_ j e_ with rfl|hj'
  ·rw [hi]at hj;have:o=p:=by simpa using hj
   subst this;rw [hd]at hd';have:d=d' :=by simpa using hd'
   subst this;rw [bq rfl];rw [Y]at hu;have:t=u:=by simpa using hu
   subst this;exact hv
  ·have Q_:d≠d' :=fun e=>by
    subst e;have:=hs2 j p hj hj' hd';subst this;rw [hj']at hun';cases hun'
   rw [aZ Q_];exact u.mono x_.keep (h.new j p d' u hj hj' hd' hu)
def rb(h:i<done.size):done.getD i true=done.getD i false:=by simp [h]
def xd(h:oE done=0)(hi:i<done.size):done.getD i false=true:=by
 unfold oE at h;rw [List.countP_eq_zero]at h;have V:done[i]∈done.toList:=by simp
 have:=h _ V;rw [<-rb hi];simpa [hi] using this
def B8{r:Option Nat}(hc: ∀m o,n<=m->L[m]? =some o->zu L m=true)(hedge: ∀m o,L[m]? =some o->fU m o=true):
  ∀(rest:List Oper) (m:Nat) (done:Array Bool) (fuel:Nat) (a:Act) (w:World),n<=m->L.drop m=rest->done.size=L.length->(∀j,j<L.length->(done.getD j false=true↔j<m))->oE done=fuel->
   wpListIn (fw r) 0 P L.toArray hf rest a w->wpAnyIn (fw r) 0 P .any L.toArray hf fuel done a w:=by
 intro rest
 induction rest with
 |nil=>
  intro m done fuel a w hnm hdrop k_ e_ hu h;have hlen:L.length<=m:=GI.1 hdrop;have hr:Region.ready .any L.toArray done=[]:=by
   cases hr:Region.ready .any L.toArray done with
   |nil=>rfl
   |cons i r=>
    have hm:i∈Region.ready .any L.toArray done:=by rw [hr];exact pz ..
    obtain⟨hun,o,ho,_⟩:=wi.1 hm;have hi:i<L.length:=by simpa using (s9.1 ho).1
    have:=(e_ i hi).2 (by omega);rw [rb (by omega)]at hun;rw [hun]at this;cases this
  cases fuel with
  |zero=>exact⟨hr,h⟩
  |succ f=>exact⟨fun _=>h,fun i hi=>by rw [hr]at hi;cases hi⟩
 |cons o rest ih=>
  intro m done fuel a w hnm hdrop k_ e_ hu h;have hm:m<L.length:=by
   rcases mN m L.length with h' |h'
   ·exact h'
   ·rw [GI.2 h']at hdrop;cases hdrop
  have hLm:L[m]? =some o:=by
   have:=xT (xs:=L) (i:=m) (j:=0);rw [hdrop]at this;simpa using this.symm
  have hmu:done.getD m true=false:=by
   have hnot: ¬(done.getD m false=true):=fun V=>by have:=(e_ m hm).1 V;omega
   rw [rb (by omega)];exact B6 _▸hnot
  have honly: ∀i∈Region.ready .any L.toArray done,i=m:=by
   intro i hi;obtain⟨hun,p,hp,t_⟩:=wi.1 hi;have hp' :L[i]? =some p:=by simpa using hp
   have hil:i<L.length:=(oC.1 hp').1;have hid: ¬i<m:=fun o_=>by
    have V:=(e_ i hil).2 o_;rw [rb (by omega)]at hun;rw [hun]at V;cases V
   rcases mN m i with o_|hge
   ·exfalso;have hcov:=hc i p (by omega) hp';unfold zu at hcov;have hre:=o0.1 hcov m (by simpa using o_);have:done.getD m false=true:=by
     refine jk (L:=L) (done:=done) (fun j q hj hjd e he K=>?_) _ i m (fun q hq e he K=>?_) hre
     ·have hjl:j<L.length:=(oC.1 hj).1;have hjm:=(e_ j hjl).1 hjd;have:=hedge j q hj;unfold fU at this;have:=o0.1 this e (by simpa using he);simp only [K,s6,yG,xS]at this;exact(e_ e.on (by omega)).2 (by omega)
     ·have:q=p:=by rw [hp']at hq;simpa using hq.symm
      subst this;exact t_ e he K
    have:=(e_ m hm).1 this;omega
   ·omega
  have hready:m∈Region.ready .any L.toArray done:=by
   rw [wi];refine⟨hmu,o,by simpa using hLm,fun e he K=>?_⟩;have:=hedge m o hLm;unfold fU at this;have:=o0.1 this e (by simpa using he);simp only [K,s6,yG,xS]at this;exact(e_ e.on (by omega)).2 this
  cases fuel with
  |zero=>
   have:=xd hu (i:=m) (by omega);have:=(e_ m hm).1 this;omega
  |succ fuel=>
   refine⟨fun hr=>(by rw [hr]at hready;cases hready),fun i hi=>?_⟩;have:=honly i hi;subst this;have hnext:=fun a w=>ih (i+1) (done.setIfInBounds i true) fuel a w (by omega) (by rw [<-vE,hdrop];rfl) (by simpa using k_) (fun j hj=>by
    by_cases hij:i=j
    ·subst hij;have:i<done.size:=by omega
     simp [this]
    ·rw [zC false hij,e_ j hj];omega) (by have:=uf hmu;omega)
   unfold wpOpIn;have hLm' :L.toArray[i]? =some o:=by simpa using hLm
   rw [hLm'];show if _ then _ else _;unfold wpListIn at h;by_cases hw:Region.wanted o (yielded L.toArray a.tmps)=true
   ·rw [bq hw]at h ⊢;exact Oper.wpIn_mono (fun a w hk=>hnext a w hk) h
   ·rw [aZ hw]at h ⊢;exact⟨h.1,hnext _ _ h.2⟩
def LY{l t:List Oper}(hsl:yU E.N.n [] l=true)(hlen:ts.length=l.length)(hd:DR E O G (l++t) ts 0 l)(Y:BM (l++t) l.length t.length=true)(hQ: ∀a w S,St E O (Pz l ts G) a w S->wpListIn (fw E.r) 0 E.P (l++t).toArray hf t a w):
  ∀(fuel:Nat) (done:Array Bool) (a:Act) (w:World) (S:SH),oE done=fuel->(∀j,l.length<=j->done.getD j false=false)->DJ E O G (l++t) ts done a w S->wpAnyIn (fw E.r) 0 E.P .any (l++t).toArray hf fuel done a w:=by
 have hL1: ∀i o,i<l.length->(l++t)[i]? =some o->l[i]? =some o:=fun i o hi h=>by rwa [lT hi]at h
 have hL2: ∀i o,l[i]? =some o->(l++t)[i]? =some o:=fun i o h=>by rw [lT (oC.1 h).1];exact h
 have htail: ∀m o,l.length<=m->(l++t)[m]? =some o->zu (l++t) m=true/\fU m o=true:=fun m o hm ho=>by
  have hml:m<(l++t).length:=(oC.1 ho).1;rw [jY]at hml;unfold BM at Y;have:=o0.1 Y (m-l.length) (by simp;omega);rw [show l.length+(m-l.length)=m from by omega,ho]at this;simp only [jJ]at this;exact⟨this.1,this.2.1⟩
 have hedge: ∀i o,(l++t)[i]? =some o->fU i o=true:=fun i o hi=>by
  rcases mN i l.length with h|h
  ·obtain⟨_,_,_,_,_,h,_⟩:=DR.get l 0 hd i o (hL1 i o h hi);simpa using h
  ·exact(htail i o h hi).2
 obtain⟨hs1,hs2⟩:=Aa l [] hsl;have fin: ∀fuel done a w S,oE done=fuel->(∀j,l.length<=j->done.getD j false=false)->DJ E O G (l++t) ts done a w S->(∀i,i<l.length->done.getD i false=true)->wpAnyIn (fw E.r) 0 E.P .any (l++t).toArray hf fuel done a w:=by
  intro fuel done a w S hu A_ h K_;refine B8 (n:=l.length) (fun m o hm ho=>(htail m o hm ho).1) hedge t l.length done fuel a w (eX _) (by simp) h.dsz (fun j hj=>⟨fun hjd=>?_,fun o_=>K_ j o_⟩) hu
   (hQ a w S ⟨h.ext,h.sat,h.own,h.size,h.defers,fun j u hj=>?_⟩)
  ·rcases mN j l.length with h' |h'
   ·exact h'
   ·rw [A_ j h']at hjd;cases hjd
  ·rcases Jw l ts j u (fun o ho e=>by obtain⟨d,hd,_⟩:=hs1 o ho;rw [hd]at e;cases e) hlen hj with⟨i,o,D,V,Z⟩|⟨D,V⟩
   ·exact h.new i o j u (hL2 i o D) (K_ i (oC.1 D).1) V Z
   ·refine h.old j u D fun i o ho hdn=>?_;rcases mN i l.length with h' |h'
    ·exact V o (ud (hL1 i o h' ho))
    ·rw [A_ i h']at hdn;cases hdn
 have lower: ∀done a w S i,(∀j,l.length<=j->done.getD j false=false)->DJ E O G (l++t) ts done a w S->i∈Region.ready .any (l++t).toArray done->l.length<=i-> ∀j,j<l.length->done.getD j false=true:=by
  intro done a w S i A_ h hi hge j hj;obtain⟨hun,p,hp,t_⟩:=wi.1 hi;have hp' :(l++t)[i]? =some p:=by simpa using hp
  have hcov:=(htail i p hge hp').1;unfold zu at hcov;have hre:=o0.1 hcov j (by simp;omega);exact jk h.down _ i j (fun q hq e he K=>by
   have:q=p:=by rw [hp']at hq;simpa using hq.symm
   subst this;exact t_ e he K) hre
 intro fuel
 induction fuel with
 |zero=>
  intro done a w S hu A_ h;exact fin 0 done a w S hu A_ h fun i hi=>xd hu (by rw [h.dsz,jY];omega)
 |succ fuel ih=>
  intro done a w S hu A_ h;by_cases K_: ∀i,i<l.length->done.getD i false=true
  ·exact fin _ done a w S hu A_ h K_
  have hready0: ∀m i,i<m->i<l.length->Region.ready .any (l++t).toArray done=[]->done.getD i false=true:=by
   intro m
   induction m with
   |zero=>intro i h;omega
   |succ m ihm=>
    intro i him hil hr;have his:i<done.size:=by rw [h.dsz,jY];omega
    by_cases hdn:done.getD i true=true
    ·rw [<-rb his];exact hdn
    ·exfalso;obtain⟨o,ho⟩: ∃o,(l++t)[i]? =some o:=⟨l[i],hL2 i _ (qV hil)⟩;have hmem:i∈Region.ready .any (l++t).toArray done:=by
      rw [wi];refine⟨by simpa using hdn,o,by simpa using ho,fun e he K=>?_⟩;have:=hedge i o ho;unfold fU at this;have:=o0.1 this e (by simpa using he);simp only [K,s6,yG,xS]at this;exact ihm e.on (by omega) (by omega) hr
     rw [hr]at hmem;cases hmem
  refine⟨fun hr=>absurd (fun i hi=>hready0 (i+1) i (by omega) hi hr) K_,fun i hi=>?_⟩;have hil:i<l.length:=by
   rcases mN i l.length with h' |h'
   ·exact h'
   ·exact absurd (lower done a w S i A_ h hi h') K_
  obtain⟨hun,o,ho,t_⟩:=wi.1 hi;have ho' :(l++t)[i]? =some o:=by simpa using ho
  have hol:=hL1 i o hil ho';obtain⟨needs,u,D,V,Z,_,h5⟩:=DR.get l 0 hd i o hol;rw [oZ]at D Z;have hF:=h.need ho' hun t_ V Z;have h6:=h5 a w S h.sat h.own hF;have hu' :oE (done.setIfInBounds i true)=fuel:=by have:=uf hun;omega
  obtain⟨d,hdd,hdN,_⟩:=hs1 o (ud hol);have huq: ∀j p,(l++t)[j]? =some p->done.getD j false=true->p.dst=some d->i=j:=fun j p hj hjd hpd=>by
   rcases mN j l.length with h' |h'
   ·exact hs2 i j o p hol (hL1 j p h' hj) (by rw [hdd,hpd])
   ·rw [A_ j h']at hjd;cases hjd
  have hfree' : ∀j,l.length<=j->(done.setIfInBounds i true).getD j false=false:=fun j hj=>by
   rw [zC false (by omega)];exact A_ j hj
  unfold wpOpIn;rw [ho];show if _ then _ else _;by_cases hw:Region.wanted o (yielded (l++t).toArray a.tmps)=true
  ·rw [bq hw]at h6 ⊢;refine n8 (fun a' w' ⟨v,S',ha,he,hs,hv⟩=>?_) h6;subst ha;exact ih _ _ _ S' hu' hfree' (h.stepT ho' hdd hdN huq t_ D hun he hs hv)
  ·rw [aZ hw]at h6 ⊢;exact⟨fun _ _=>trivial,ih _ _ _ S hu' hfree' (h.stepT ho' hdd hdN huq t_ D hun (ji.refl _ _ _) h.sat h6)⟩
def WF{id:Nat}{l t:List Oper}(hL:L=l++t)(hm:E.P.follows .mixedOrders=true)(hsl:yU E.N.n [] l=true)(hlen:ts.length=l.length)(Y:BM L l.length t.length=true)(hd:DR E O G L ts 0 l)(k:RG E L.toArray hf t O (Pz l ts G)):CG E hf (.region id L.toArray true) O G:=fun a w S st=>by
 subst hL;refine wpIn_region_any hm ?_;obtain⟨he,hs⟩:=AU (w:=w) st.sat;refine LY hsl hlen hd Y (fun a w S st=>k a w S st) _ _ _ _ S ?_ (fun j _=>?_)
  ⟨st.ext.step0 he,hs,st.own.ext0 he,st.facts.size,st.facts.defers,by simp,fun j o hj e_=>?_,fun k t hk _=>st.facts.h_ k t hk,fun j o d t hj e_=>?_⟩
 ·unfold oE;rw [QT,QP];simp
 ·simp [B7];split<;>rfl
 ·simp [B7]at e_;split at e_<;>simp at e_
 ·simp [B7]at e_;split at e_<;>simp at e_
abbrev It(α:Type):=(σ:Type)->(α->σ->Option (Bool×σ))->σ->Option σ
def ua(Se:SH)(O:List OE):OE where
 fp:=fun k=> ∃f∈O,f.fp k
 p:=fun w S=>SH.le Se S/\dR 0 sq w S O
 here:=fun⟨_,h⟩ _ ⟨f,Q,hk⟩=>f.here (dR.mem h f Q).1 _ hk
 kept:=fun⟨D,V⟩ k hC=>⟨SH.le_trans D k.keep,V.ext k fun f Q b K=>hC b ⟨f,Q,K⟩⟩
def dR.weak: ∀{O:List OE},dR base B w S O->dR 0 sq w S O
 |[],_=>trivial
 |_::_,⟨D,V,Z⟩=>⟨⟨D.1,fun _ _=> .inl (kY _)⟩,V,dR.weak Z⟩
def nZ: ∀{O:List OE},dR 0 sq w S O->(∀f∈O,∀k,f.fp k->base<=k\/B k)->dR base B w S O
 |[],_,_=>trivial
 |_::_,⟨D,V,Z⟩,h=>⟨⟨D.1,h _ (pz ..)⟩,V,nZ Z fun f Q=>h f (pA _ Q)⟩
def yd(l:Nat)(r:Loop)(st:LoopState):OE where
 fp:=fun k=>k=l
 p:=fun w S=>S l=none/\w.heap[l]? =some (.loop {r with state:=st,pending:=none})
 here:=by
  intro w S h k hk;subst hk;exact(s9.1 h.2).1
 kept:=by
  intro C w w' S S' h k hC;have o_:=(s9.1 h.2).1;exact⟨by rw [k.old l o_ (hC l rfl)];exact h.1,by rw [k.heap l o_ (hC l rfl)];exact h.2⟩
def Gb(b:Nat):OE where
 fp:=fun k=>k=b
 p:=fun w S=>S b=none/\w.heap[b]? =some (.deferred (some []))
 here:=by
  intro w S h k hk;subst hk;exact(s9.1 h.2).1
 kept:=by
  intro C w w' S S' h k hC;have o_:=(s9.1 h.2).1;exact⟨by rw [k.old b o_ (hC b rfl)];exact h.1,by rw [k.heap b o_ (hC b rfl)];exact h.2⟩
def Av(b:Nat):Deferred:={target:= .collected b,args:= #[]}
def Yld(P:Program){α σ:Type}(args:α->List Ty)(y:α->σ->Option (Bool×σ))(hx:σ->OE->Prop)(yv:Value):Prop:=
 ∃l,yv= .func (.yield l) #[] #[]/\ ∀x s r,y x s=some r-> ∀e,hx s e-> ∀w S vs,kQ w S->e.p w S->yw S (args x) vs->
  ∃f tmps assign body,(Instr.yield l vs.toArray).run P w= .ok (.round l f tmps assign body) w/\
   RoundIn (fw none) 0 P l f tmps assign body w fun en w' => ∃e' S',en= .returned (.bool r.1)/\hx r.2 e' /\ji e.fp w S w' S' /\kQ w' S' /\e'.p w' S' /\ ∀k,e'.fp k->e.fp k\/w.heap.size<=k
def WC(P:Program){α:Type}(args:α->List Ty)(it:It α)(E_:FuncId)(cap:Array Value)(fp:Nat->Prop)(w:World)(S:SH):Prop:=
 ∀(σ:Type) (y:α->σ->Option (Bool×σ)) (s s' :σ),it σ y s=some s' -> ∀hx yv,Yld P args y hx yv-> ∀e,hx s e->e.p w S->(∀k,e.fp k-> ¬fp k)->
  Calls P E_ (#[yv]++cap) w fun en w' => ∃e' S',(∃v,en= .returned v)/\hx s' e' /\ji (fun k=>e.fp k\/fp k) w S w' S' /\kQ w' S' /\e'.p w' S' /\ ∀k,e'.fp k->e.fp k\/w.heap.size<=k
def Zq(P:Program){α:Type}(args:α->List Ty)(it:It α)(v:Value)(fp:Nat->Prop):OE where
 fp:=fp
 p:=fun w S=>(∀k,fp k->k<w.heap.size)/\ ∃E_ cap,v= .func (.func E_) #[] cap/\af P E_=true/\
  ∀C w' S',ji C w S w' S' ->(∀k,fp k-> ¬C k)->kQ w' S' ->WC P args it E_ cap fp w' S'
 here:=fun h k hk=>h.1 k hk
 kept:=by
  rintro C w w' S S' ⟨D,E_,cap,V,Z,h4⟩ k hC;refine⟨fun b K=>wg (D b K) k.size,E_,cap,V,Z,fun C' w'' S'' k' hC' hs=>?_⟩;exact h4 (fun b=>C b\/C' b) w'' S'' ((k.more fun b K=> .inl K).trans (k'.more fun b K=> .inr K)) (fun b K h=>h.elim (hC b K) (hC' b K)) hs
def CD(P:Program)(E_:FuncId){α:Type}(args:α->List Ty)(it:It α)(O:List OE)(cts:List Ty):Prop:=
 ∀w S cap,kQ w S->dR 0 sq w S O->yw S cts cap->WC P args it E_ cap.toArray (fun k=> ∃f∈O,f.fp k) w S
def ab6(E:En){σ:Type}(hx:σ->OE->Prop)(s:σ)(e0:OE):Ending->World->Prop:=fun en w' => ∃e' S',(∃v,en= .returned v)/\hx s e' /\ji E.B E.w0 E.S0 w' S' /\kQ w' S' /\e'.p w' S' /\ ∀k,e'.fp k->e0.fp k\/E.w0.heap.size<=k
variable{σ:Type}{hx:σ->OE->Prop}{args:α->List Ty}{cts:List Ty}{it:It α}
def CD.of(Q:P.funcs[f]? =some fn)(K:fn.body=some c)(hN:fn.ntmps=N)(hn:Nat.ble (cts.length+1) N=true)(h: ∀(σ:Type) (y:α->σ->Option (Bool×σ)) (s s' :σ),it σ y s=some s' -> ∀hx yv,Yld P args y hx yv-> ∀e,hx s e-> ∀w0 S0 B,(∀k,B k->e.fp k\/ ∃f∈O,f.fp k)->
   CG ⟨P,⟨N,[]⟩,B,w0,S0,none⟩ (bodyPost P fn (ab6 ⟨P,⟨N,[]⟩,B,w0,S0,none⟩ hx s' e)) c (e::O) (wE 0 (tV yv::cts))):CD P f args it O cts:=by
 subst hN;intro w S cap hs ho hc σ y s s' hit hx yv hy e he hep hap;have hown:dR w.heap.size (fun k=>e.fp k\/ ∃f∈O,f.fp k) w S (e::O):=
  ⟨⟨hep,fun k hk=> .inr (.inl hk)⟩,fun f Q b K hfb=>hap b K ⟨f,Q,hfb⟩,nZ ho fun f Q k hk=> .inr (.inr ⟨f,Q,hk⟩)⟩
 have hfacts:=qU (S:=S) (ts:=tV yv::cts) (vs:=yv::cap) ⟨rfl,hc⟩ fn.ntmps (by simpa using rx hn);have:=nG.1 (GF (F:=fw none) (n:=0) Q K trivial (h σ y s s' hit hx yv hy e he w S (fun k=>e.fp k\/ ∃f∈O,f.fp k) (fun _ h=>h) _ w S ⟨ji.refl _ _ _,hs,hown,hfacts⟩));rw [show(#[yv]++cap.toArray:Array Value)=(yv::cap).toArray from by simp];exact this.mono fun en w' ⟨e',S',D,V,Z,h4,h5,h6⟩=>⟨e',S',D,V,Z,h4,h5,h6⟩
section
variable{ty:TypeId}
def U7{e e' :OE}{O:List OE}(h:dR base B w S (e::O))(k:ji e.fp w S w' S')(hp:e'.p w' S')(hn: ∀b,e'.fp b->e.fp b\/w.heap.size<=b)(K:base<=w.heap.size):dR base B w' S' (e' ::O):=
 ⟨⟨hp,fun b hb' =>(hn b hb').elim (fun V=>h.1.2 b V) (fun V=> .inl (by omega))⟩,fun f Q b hb' hfb=>(hn b hb').elim (fun V=>h.2.1 f Q b V hfb) (fun V=>by
  have:=f.here (dR.mem h.2.2 f Q).1 b hfb;omega),h.2.2.ext k fun f Q b hb' V=>h.2.1 f Q b V hb'⟩
def H4{y:α->σ->Option (Bool×σ)}{yv:Value}{x:α}{s:σ}{r:Bool×σ}{e:OE}{fo:Operand}{xs:List Operand}(hy:Yld E.P args y hx yv)(he:hx s e)(hq:y x s=some r)(Q:aG E.N G fo (tV yv))(I:k5 E.N G xs (args x))(hd:Nat.blt d E.N.n=true)(k: ∀e',hx r.2 e' ->RG E ops hf rest (e' ::O) ((d,tD rB r.1)::G)):RG E ops hf (⟨some d,.call ⟨.value fo,xs.toArray,ats⟩,ty,pos,after,none⟩::rest) (e::O) G:= .of rfl fun a w S st=>by
 obtain⟨l,rfl,hyl⟩:=hy;have D:a.eval fo= .func (.yield l) #[] #[]:=Q S a st.facts;obtain⟨f,tmps,assign,body,V,Z⟩:=hyl x s r hq e he w S _ st.sat st.own.1.1 (I.tys st.facts);have hr:(execOp a.eval ⟨some d,.call ⟨.value fo,xs.toArray,ats⟩,ty,pos,after,none⟩).run E.P w= .ok (.round l f tmps assign body) w:=by
  simp [execOp,resolve,D,Deferred.ofValue,invoke];simpa using V
 refine⟨fun c h=>(by cases h),?_⟩;rw [hr];refine Z.mono fun en w' ⟨e',S',h4,h5,h6,h7,h8,h9⟩=>⟨_,h4,?_⟩;exact k e' h5 _ _ S' ⟨st.ext.step h6 (fun b K=>st.own.1.2 b K),h7,U7 st.own h6 h8 h9 st.H_,(st.facts.mono h6.keep).put hd (jN.2 rfl)⟩
end
def JG:List OE->List OE->Prop
 |[],_=>True
 |f::O,g::O' =>(∀k,f.fp k->g.fp k)/\JG O O'
 |_::_,[]=>False
def JG.mem: ∀{O O' :List OE},JG O O' -> ∀k,(∃f∈O,f.fp k)-> ∃f∈O',f.fp k
 |f::O,g::O',⟨D,V⟩,k,⟨q,hq,hk⟩=>by
  rcases iI.1 hq with e|e
  ·subst e;exact⟨g,pz ..,D k hk⟩
  ·obtain⟨q',Z,h4⟩:=JG.mem V k ⟨q,e,hk⟩;exact⟨q',pA _ Z,h4⟩
def LJ{s:σ}{e0 e:OE}{O0:List OE}(hr:fn.results= #[])(he:hx s e)(hB: ∀k,B k->e0.fp k\/ ∃f∈O0,f.fp k)(hO:JG O0 O):
  AT ⟨P,⟨N,[]⟩,B,w0,S0,none⟩ (bodyPost P fn (ab6 ⟨P,⟨N,[]⟩,B,w0,S0,none⟩ hx s e0)) .ret (e::O) G:=fun _ _ S st=>
 ⟨st.facts.defers,_,yb P fn hr _ _,e,S,⟨_,rfl⟩,he,st.ext,st.sat,st.own.1.1,fun k hk=>(st.own.1.2 k hk).elim .inr fun K=>(hB k K).elim .inl fun I=>let⟨f,Q,hfk⟩:=hO.mem k I;absurd hfk (st.own.2.1 f Q k hk)⟩
def Oz{s:σ}{e0 e:OE}{O0:List OE}(hr:fn.results= #[])(he:hx s e)(hB: ∀k,B k->e0.fp k\/ ∃f∈O0,f.fp k)(hO:JG O0 O):
  AT ⟨P,⟨N,[]⟩,B,w0,S0,none⟩ (bodyPost P fn (ab6 ⟨P,⟨N,[]⟩,B,w0,S0,none⟩ hx s e0)) .normal (e::O) G:=fun a w S st=>LJ hr he hB hO a w S st
variable{O1:List OE}{ι:Type}{O2:ι->List OE}
def qp: ∀{O1 O2:List OE},dR base B w S (O1++O2)->dR base B w S O1/\dR base B w S O2/\ ∀e∈O1,∀f∈O2,e.apart f
 |[],_,h=>⟨trivial,h,fun _ h=>(by cases h)⟩
 |e::O1,O2,⟨D,V,Z⟩=>by
  obtain⟨k1,k2,k3⟩:=qp Z;refine⟨⟨D,fun f Q=>V f (uR _ Q),k1⟩,k2,fun g H f Q=>?_⟩;rcases iI.1 H with rfl|H
  ·exact V f (CR _ Q)
  ·exact k3 g H f Q
def dR.cons{e:OE}(D:e.holds base B w S)(V: ∀f∈O,e.apart f)(Z:dR base B w S O):dR base B w S (e::O):=⟨D,V,Z⟩
def CA(P:Program)(f:FuncId)(ts:List Ty){α:Type}(args:α->List Ty)(it:It α):Prop:=
 ∀w S vs,kQ w S->yw S ts vs->Calls P f vs.toArray w fun e w' => ∃v fp S',e= .returned v/\ji sq w S w' S' /\kQ w' S' /\(Zq P args it v fp).holds w.heap.size sq w' S'
def Zw(E:En){α:Type}(args:α->List Ty)(it:It α):Ending->World->Prop:=fun e w' => ∃v fp S',e= .returned v/\ji E.B E.w0 E.S0 w' S' /\kQ w' S' /\(Zq E.P args it v fp).holds E.w0.heap.size E.B w' S'
def CA.of(Q:P.funcs[f]? =some fn)(K:fn.body=some c)(hN:fn.ntmps=N)(hn:Nat.ble ts.length N=true)(h: ∀w0 S0,CG ⟨P,⟨N,[]⟩,sq,w0,S0,none⟩ (bodyPost P fn (Zw ⟨P,⟨N,[]⟩,sq,w0,S0,none⟩ args it)) c [] (wE 0 ts)):CA P f ts args it:=by
 subst hN;intro w S vs hs hv;exact nG.1 (GF (F:=fw none) (n:=0) Q K trivial (h w S _ w S ⟨ji.refl _ _ _,hs,trivial,qU hv _ (rx hn)⟩))
section
def Ox{k:Nat}{v:Value}{fp:Nat->Prop}(hr:fn.results= #[.tmp k])(hk:look G k=some (tV v)):
  AT ⟨P,⟨N,[]⟩,B,w0,S0,none⟩ (bodyPost P fn (Zw ⟨P,⟨N,[]⟩,B,w0,S0,none⟩ args it)) .ret (Zq P args it v fp::O) G:=fun a w S st=>by
 have hv:a.tmps.getD k undef=v:=st.facts.h_ k _ hk;exact⟨st.facts.defers,_,pZ P fn k hr _ _,v,fp,S,by rw [hv],st.ext,st.sat,st.own.1⟩
section
variable{ty:TypeId}
def EQ{xs:List Operand}(hc:af E.P f=true)(hs:CA E.P f ts args it)(I:k5 E.N G xs ts)(hd:Nat.blt d E.N.n=true)(k: ∀v fp,RG E ops hf rest (Zq E.P args it v fp::O) ((d,tV v)::G)):
  RG E ops hf (⟨some d,.call ⟨.value (.func f),xs.toArray,ats⟩,ty,pos,after,none⟩::rest) O G:= .of rfl fun a w S st=>by
 have hr:(execOp a.eval ⟨some d,.call ⟨.value (.func f),xs.toArray,ats⟩,ty,pos,after,none⟩).run E.P w= .ok (.enter f (xs.map a.eval).toArray) w:=by
  simp [execOp,resolve,Act.eval,Deferred.ofValue,invoke,gT hc]
 refine⟨fun c h=>(by cases h),?_⟩;rw [hr];refine(hs w S _ st.sat (I.tys st.facts)).mono fun e w' ⟨v,fp,S',he,D,V,Z⟩=>⟨_,he,?_⟩;exact k v fp _ _ S' ⟨st.ext.step0 D,V,rR st.own D Z.1 (fun b K=>(Z.2 b K).resolve_right id) st.H_,(st.facts.mono D.keep).put hd rfl⟩
def FM{E_:FuncId}{O2:List OE}{L_:List Operand}(hO:O=O1++O2)(hc:af E.P E_=true)(hs:CD E.P E_ args it O1 cts)(hcap:k5 E.N G L_ cts)(hd:Nat.blt d E.N.n=true)(k: ∀v fp,RG E ops hf rest (Zq E.P args it v fp::O2) ((d,tV v)::G)):
  RG E ops hf (⟨some d,.makeFunc (.func E_) #[] L_.toArray,ty,pos,after,none⟩::rest) O G:= .of rfl fun a w S st=>by
 subst hO;have hr:(execOp a.eval ⟨some d,.makeFunc (.func E_) #[] L_.toArray,ty,pos,after,none⟩).run E.P w= .ok (.value (.func (.func E_) #[] (L_.map a.eval).toArray)) w:=by simp [execOp,Instr.makeFunc]
 refine⟨fun c h=>(by cases h),?_⟩;rw [hr];obtain⟨D,V,Z⟩:=qp st.own;have hcv:=hcap.tys st.facts;refine k (.func (.func E_) #[] (L_.map a.eval).toArray) (fun k=> ∃f∈O1,f.fp k) _ _ S ⟨st.ext,st.sat,?_,st.facts.put hd rfl⟩;refine dR.cons ⟨⟨fun b ⟨f,Q,K⟩=>f.here (dR.mem D f Q).1 b K,E_,_,rfl,hc,fun C w' S' he hC hs' =>?_⟩,fun b ⟨f,Q,K⟩=>(dR.mem D f Q).2 b K⟩ (fun f Q b ⟨g,H,K⟩=>Z g H f Q b K) V;exact hs w' S' _ hs' (D.weak.ext he fun f Q b K=>hC b ⟨f,Q,K⟩) (hcv.mono he.keep)
end
end
def Ji:List Nat->List Ty->oz->oz
 |d::ds,t::ts,G=>Ji ds ts ((d,t)::G)
 |_,_,G=>G
def Cz{N:Fr}{S:SH}: ∀(ds:List Nat) (ts:List Ty) (vs:List Value) (a:Act) (G:oz),ds.length=ts.length->yw S ts vs->(ds.all fun d=>Nat.blt d N.n)=true->cH N S a G->
  cH N S {tmps:=(ds.zip vs).foldl (fun t (p:Nat×Value)=>t.setIfInBounds p.1 p.2) a.tmps,defers:=a.defers} (Ji ds ts G)
 |[],_,_,_,_,hl,_,_,hF=>by
  cases uS hl.symm;simpa [Ji] using hF
 |d::ds,[],_,_,_,hl,_,_,_=>by simp at hl
 |d::ds,t::ts,[],_,_,_,hv,_,_=>hv.elim
 |d::ds,t::ts,v::vs,a,G,hl,⟨D,V⟩,hd,hF=>by
  simp only [yF,jJ]at hd;have:=Cz ds ts vs (a.put (some d) v) ((d,t)::G) (by simpa using hl) V hd.2 (hF.put hd.1 D);simpa [Ji,Act.put] using this
def aaA(E:En)(l:Nat)(rec:Loop){σ ι:Type}(Oi:ι->List OE)(dat:ι->σ)(s2:σ):Ending->World->Prop:=fun en w' =>
 ∃i S',en= .returned (.bool true)/\dat i=s2/\ji E.B E.w0 E.S0 w' S' /\kQ w' S' /\dR E.base E.B w' S' (yd l rec .ready::Oi i)
def YV(E:En)(l:Nat)(body:Code)(R:Ending->World->Prop):Exit->Act->World->Prop:=
 Exit.then (fun a₁ w₁=> ∃w₂,(Instr.beginRound l).run E.P w₁= .ok () w₂/\body.wpIn (fw E.r) 0 E.P (roundPost E.P l R) a₁ w₂) (fun _ _ _=>False)
variable{rec:Loop}{x1 x2 x3:OE}
section
def KK{l:Nat}{st st' :LoopState}{O:List OE}(h:dR base B w S (yd l rec st::O))(hs:kQ w S):
  ji (fun k=>k=l) w S (w.putObj l (.loop {rec with state:=st',pending:=none})) S/\kQ (w.putObj l (.loop {rec with state:=st',pending:=none})) S/\dR base B (w.putObj l (.loop {rec with state:=st',pending:=none})) S (yd l rec st' ::O):=by
 obtain⟨G_,hl⟩:=h.1.1;have o_:=(s9.1 hl).1;have x_:ji (fun k=>k=l) w S (w.putObj l (.loop {rec with state:=st',pending:=none})) S:=⟨rfl,rfl,rfl,eX _,by simp,fun k _ hk=>World.putObj_heap_other hk,SH.le_refl _,fun _ _ _=>rfl⟩;refine⟨x_,hs.same fun k o hk=>?_,⟨⟨G_,World.putObj_heap_same o_⟩,h.1.2⟩,h.2.1,h.2.2.ext x_ fun g H k hk hkl=>h.2.1 g H k hkl hk⟩;have Q_:k≠l:=fun e=>by subst e;rw [G_]at hk;cases hk
 exact World.putObj_heap_other Q_
def OA{l:Nat}{body:Code}{R:Ending->World->Prop}(h:CG E (roundPost E.P l R) body (yd l rec .busy::O) G):AT E (YV E l body R) .normal (yd l rec .ready::O) G:=fun a w S st=>by
 obtain⟨D,V,Z⟩:=KK (st' := .busy) st.own st.sat;obtain⟨_,hl⟩:=st.own.1.1;exact⟨_,run_beginRound hl rfl,h a _ S ⟨st.ext.step D (fun c hc=>st.own.1.2 c hc),V,Z,st.facts⟩⟩
def AV{l:Nat}{Oi:ι->List OE}{dat:ι->σ}{s2:σ}(i:ι)(hi:dat i=s2)(hO:O=Oi i):AT E (roundPost E.P l (aaA E l rec Oi dat s2)) .normal (yd l rec .busy::O) G:=fun a w S st=>by
 subst hO;obtain⟨D,V,Z⟩:=KK (st' := .ready) st.own st.sat;obtain⟨_,hl⟩:=st.own.1.1;exact⟨_,_,run_endRound none hl,i,S,rfl,hi,st.ext.step D (fun c hc=>st.own.1.2 c hc),V,Z⟩
def zJ{ps:Array Nat}{vs:List Value}{tmps:Array Value}:(ps.zip vs.toArray).foldl (fun t (p,v)=>t.setIfInBounds p v) tmps=(ps.toList.zip vs).foldl (fun t (p:Nat×Value)=>t.setIfInBounds p.1 p.2) tmps:=by
 rw [<-Array.foldl_toList];simp
def DM{α σ:Type}(f:α->σ->Option σ):α->σ->Option (Bool×σ):=fun x s=>(f x s).map fun s' =>(true,s')
def J3{v:Value}{fp:Nat->Prop}(Oi:ι->List OE)(dat:ι->σ){f:α->σ->Option σ}{s' :σ}{g:Operand}{ps:List Nat}{assign body:Code}(hr:E.r=none)(H:aG E.N G g (tV v))(i0:ι)(hO:O=Zq E.P args it v fp::Oi i0)(hit:it σ (DM f) (dat i0)=some s')(hps: ∀x,ps.length=(args x).length)(hpn:(ps.all fun d=>Nat.blt d E.N.n)=true)(hbody: ∀(i:ι) (x:α) (s2:σ),f x (dat i)=some s2-> ∀(l:Nat) (rec:Loop) (w1:World) (S1:SH) (B1:Nat->Prop),
   CG ⟨E.P,⟨E.N.n,[]⟩,B1,w1,S1,some l⟩ (YV ⟨E.P,⟨E.N.n,[]⟩,B1,w1,S1,some l⟩ l body (aaA ⟨E.P,⟨E.N.n,[]⟩,B1,w1,S1,some l⟩ l rec Oi dat s2)) assign (yd l rec .ready::Oi i) (Ji ps (args x) G))(k: ∀i',dat i' =s' -> ∀b,AT ⟨E.P,⟨E.N.n,Av b::E.N.ds⟩,E.B,E.w0,E.S0,E.r⟩ hf .normal (Gb b::Oi i') G):CG E hf (.rangeFunc g ps.toArray assign body) O G:=fun a w S st=>by
 subst hO;refine wpIn_rangeFunc fun fn _=>?_;have hr0:(fw E.r).round=none:=hr;have hfw:fw E.r=fw none:=by rw [hr]
 rw [hr0];obtain⟨rec,hrec⟩: ∃rec:Loop,rec={state:= .ready,pending:=none,fn,tmps:=a.tmps,params:=ps.toArray,assign,body,defers:=w.heap.size}:=⟨_,rfl⟩;obtain⟨x1,x2,x3⟩:=gb (w:=w) (.deferred (some [])) st.sat;obtain⟨y1,y2,y3⟩:=gb (w:=w.alloc (.deferred (some []))) (.loop rec) x2;obtain⟨W1,hW1⟩: ∃W1,(w.alloc (.deferred (some []))).alloc (.loop rec)=W1:=⟨_,rfl⟩;rw [hW1]at y1 y2;have k_:(w.alloc (.deferred (some []))).heap.size=w.heap.size+1:=by simp
 rw [k_]at y3;have x_:ji sq w S W1 S:=x1.trans y1;have hL1:W1.heap[w.heap.size+1]? =some (.loop rec):=by
  rw [<-hW1];have:=World.alloc_heap_new (w.alloc (.deferred (some []))) (.loop rec);rwa [k_]at this
 have hK1:W1.heap[w.heap.size]? =some (.deferred (some [])):=by
  rw [y1.heap w.heap.size (by omega) (fun h=>h)];exact World.alloc_heap_new w _
 have hW1s:W1.heap.size=w.heap.size+2:=by rw [<-hW1];simp
 have hg' :a.eval g=v:=H S a st.facts;obtain⟨hit1,hap,hoi⟩:=st.own;obtain⟨⟨hfp,gf,cap,hv,hcal,hcall⟩,hbase⟩:=hit1;have hbl:=st.H_;have hoi1:dR E.base E.B W1 S (Oi i0):=hoi.ext0 x_;have o_: ∀f∈Oi i0,∀k,f.fp k->k<w.heap.size:=fun f Q k hk=>f.here (dR.mem hoi f Q).1 k hk;refine⟨w.heap.size+1,[Av w.heap.size],W1,{target:= .fn (.func gf) cap,args:= #[.func (.yield (w.heap.size+1)) #[] #[]]},W1,gf,
  #[.func (.yield (w.heap.size+1)) #[] #[]]++cap,W1,?_,?_,fun _ _=>trivial,?_,fun h=>(by cases h),?_⟩
 ·rw [<-hW1,hrec];exact run_enterLoop_outer _ _ _ _ _
 ·simp only [resolve,hg',hv];simp [go_sem]
 ·simp [invoke,go_sem,gT hcal]
 rw [hfw];refine nG.2 ?_;have hyld:Yld E.P args (DM f) (fun s e=> ∃i,dat i=s/\e=ua S (yd (w.heap.size+1) rec .ready::Oi i)) (.func (.yield (w.heap.size+1)) #[] #[]):=by
  refine⟨_,rfl,?_⟩;rintro x s r hy e ⟨i,rfl,rfl⟩ w2 S2 vs hs2 ⟨hle,hown⟩ hvs;obtain⟨s2,hs2',rfl⟩: ∃s2,f x (dat i)=some s2/\r=(true,s2):=by
   unfold DM at hy
   cases Q:f x (dat i)with
   |none=>rw [Q]at hy;cases hy
   |some s2=>rw [Q]at hy;exact⟨s2,rfl,by simpa using hy.symm⟩
  have hl2:=hown.1.1.2;have hvl:=hvs.length;have hyr:=run_yield (P:=E.P) (args:=vs.toArray) hl2 (by rw [hrec];simp [hps x,hvl]);refine⟨_,_,_,_,hyr,roundIn_of_wpIn trivial ?_⟩;have:=hbody i x s2 hs2' (w.heap.size+1) rec w2 S2 (fun k=> ∃f∈yd (w.heap.size+1) rec .ready::Oi i,f.fp k)
   {tmps:=(ps.zip vs).foldl (fun t (p:Nat×Value)=>t.setIfInBounds p.1 p.2) a.tmps,defers:=[]} w2 S2
   ⟨ji.refl _ _ _,hs2,nZ hown fun f Q k hk=> .inr ⟨f,Q,hk⟩,Cz ps (args x) vs ⟨a.tmps,[]⟩ G (hps x) hvs hpn ⟨st.facts.size,rfl,fun j t h=>t.mono hle (st.facts.h_ j t h)⟩⟩
  rw [hrec];rw [hrec]at this;rw [zJ];refine wpIn_mono this ?_;intro e a3 w3 hp
  cases e with
  |normal=>
   obtain⟨w4,hb4,hp4⟩:=hp;refine⟨w4,hb4,wpIn_mono hp4 ?_⟩;have hR: ∀en w',aaA ⟨E.P,⟨E.N.n,[]⟩,fun k=> ∃f∈yd (w.heap.size+1) rec .ready::Oi i,f.fp k,w2,S2,some (w.heap.size+1)⟩ (w.heap.size+1) rec Oi dat s2 en w' ->
     ∃e' S',en= .returned (.bool true)/\(∃i',dat i' =s2/\e' =ua S (yd (w.heap.size+1) rec .ready::Oi i'))/\ji (ua S (yd (w.heap.size+1) rec .ready::Oi i)).fp w2 S2 w' S' /\kQ w' S' /\e'.p w' S' /\ ∀k,e'.fp k->(ua S (yd (w.heap.size+1) rec .ready::Oi i)).fp k\/w2.heap.size<=k:=by
    rintro en w' ⟨i',S',D,V,Z,h4,h5⟩;exact⟨_,S',D,⟨i',V,rfl⟩,Z,h4,⟨SH.le_trans hle Z.keep,h5.weak⟩,fun k ⟨f,Q,hk⟩=>((dR.mem h5 f Q).2 k hk).symm⟩
   rw [hrec]at hR;intro e5 a5 w5 hp5;cases e5<;>simp only [roundPost]at hp5 ⊢
   case normal=>obtain⟨v5,w6,D,V⟩:=hp5;exact⟨v5,w6,D,hR _ _ V⟩
   case ret=>obtain⟨v5,w6,D,V⟩:=hp5;exact⟨v5,w6,D,hR _ _ V⟩
   case exit=>obtain⟨v5,w6,D,V⟩:=hp5;exact⟨v5,w6,D,hR _ _ V⟩
   case goto=>obtain⟨v5,w6,D,V⟩:=hp5;exact⟨v5,w6,D,hR _ _ V⟩
  |_=>exact hp
 have hrecE:W1.heap[w.heap.size+1]? =some (.loop {rec with state:= .ready,pending:=none}):=by rw [hL1,hrec]
 have he0:(ua S (yd (w.heap.size+1) rec .ready::Oi i0)).p W1 S:=⟨SH.le_refl _,⟨⟨y3,hrecE⟩,fun _ _=> .inl (kY _)⟩,fun f Q k hk hfk=>by have:=o_ f Q k hfk;have hk' :k=w.heap.size+1:=hk;omega,hoi1.weak⟩;have hap0: ∀k,(ua S (yd (w.heap.size+1) rec .ready::Oi i0)).fp k-> ¬fp k:=by
  rintro k ⟨f,Q,hk⟩ hfk;rcases iI.1 Q with rfl|Q
  ·have:=hfp k hfk;have hk' :k=w.heap.size+1:=hk;omega
  ·exact hap f Q k hfk hk
 refine(hcall sq W1 S x_ (fun _ _ h=>h) y2 σ (DM f) (dat i0) s' hit _ _ hyld _ ⟨i0,rfl,rfl⟩ he0 hap0).mono ?_;rintro en w2 ⟨e',S2,⟨vr,rfl⟩,⟨i',hi',rfl⟩,hx2,hs2,⟨hle2,hown2⟩,hnew⟩;have hl2:=hown2.1.1.2;refine⟨none,_,run_endLoop hl2 (by simp),?_⟩;have hb2:dR E.base E.B w2 S2 (yd (w.heap.size+1) rec .ready::Oi i'):=by
  refine nZ hown2 fun f Q k hk=>?_;rcases hnew k ⟨f,Q,hk⟩with⟨f0,hf0,hk0⟩|h
  ·rcases iI.1 hf0 with rfl|hf0
   ·left;have hk' :k=w.heap.size+1:=hk0;omega
   ·exact(dR.mem hoi f0 hf0).2 k hk0
  ·left;omega
 obtain⟨z1,z2,z3⟩:=KK (st' := .exhausted) hb2 hs2;have hdf:(Gb w.heap.size).p W1 S:=⟨x3,hK1⟩;have hnb: ∀k,(Gb w.heap.size).fp k-> ¬((ua S (yd (w.heap.size+1) rec .ready::Oi i0)).fp k\/fp k):=by
  rintro k hk h;have hk' :k=w.heap.size:=hk;subst hk';rcases h with⟨f,Q,hfk⟩|h
  ·rcases iI.1 Q with rfl|Q
   ·have hk' :w.heap.size=w.heap.size+1:=hfk;omega
   ·have:=o_ f Q _ hfk;omega
  ·have:=hfp _ h;omega
 have TC:(Gb w.heap.size).p w2 S2:=(Gb w.heap.size).kept hdf hx2 hnb;have hd3:=(Gb w.heap.size).kept TC z1 (fun k hk hkl=>by have D:k=w.heap.size:=hk;have V:k=w.heap.size+1:=hkl;omega);have hBin: ∀k,((ua S (yd (w.heap.size+1) rec .ready::Oi i0)).fp k\/fp k)->E.w0.heap.size<=k\/E.B k:=by
  rintro k (⟨f,Q,hk⟩|h)
  ·rcases iI.1 Q with rfl|Q
   ·left;have hk' :k=w.heap.size+1:=hk;have:E.w0.heap.size<=w.heap.size:=hbl;omega
   ·exact(dR.mem hoi f Q).2 k hk
  ·exact hbase k h
 refine k i' hi' w.heap.size _ _ S2 ⟨((st.ext.step0 x_).step hx2 hBin).step z1 (fun c hc=>z3.1.2 c hc),z2,?_,?_⟩
 ·refine dR.cons ⟨hd3,fun k hk=> .inl (by have D:k=w.heap.size:=hk;rw [D];exact hbl)⟩ (fun f Q k hk hfk=>?_) z3.2.2;have D:k=w.heap.size:=hk;rcases hnew k ⟨f,pA _ Q,hfk⟩with V|V
  ·exact hnb k hk (.inl V)
  ·omega
 ·refine⟨st.facts.size,?_,fun j t hj=>t.mono (SH.le_trans (SH.le_refl S) hle2) (st.facts.h_ j t hj)⟩;show Av w.heap.size::a.defers=_;rw [st.facts.defers]
end
section
variable{R:Ending->World->Prop}{ds:List Deferred}
def tX(h:AT ⟨P,⟨N,[]⟩,B,w0,S0,none⟩ (bodyPost P fn R) .ret O G):AT ⟨P,⟨N,[]⟩,B,w0,S0,none⟩ (bodyPostM (fw none) 0 P fn R) .ret O G:=fun a w S st=>by
 obtain⟨D,v,V,Z⟩:=h a w S st;show LeavesInM (fw none) 0 P fn a.tmps R a.defers .returning w;rw [D];exact⟨v,V,Z⟩
def zB(h:AT ⟨P,⟨N,ds⟩,B,w0,S0,none⟩ (bodyPostM (fw none) 0 P fn R) .ret O G):AT ⟨P,⟨N,Av b::ds⟩,B,w0,S0,none⟩ (bodyPostM (fw none) 0 P fn R) .ret (Gb b::O) G:=fun a w S st=>by
 show LeavesInM (fw none) 0 P fn a.tmps R a.defers .returning w;rw [st.facts.defers];obtain⟨G_,K⟩:=st.own.1.1;have o_:=(s9.1 K).1;have x_:ji (fun k=>k=b) w S (w.putObj b (.deferred none)) S:=⟨rfl,rfl,rfl,eX _,by simp,fun k _ hk=>World.putObj_heap_other hk,SH.le_refl _,fun _ _ _=>rfl⟩;have C_:kQ (w.putObj b (.deferred none)) S:=st.sat.same fun k o hk=>by
  have Q_:k≠b:=fun e=>by subst e;rw [G_]at hk;cases hk
  exact World.putObj_heap_other Q_
 have:=h {a with defers:=ds} (w.putObj b (.deferred none)) S ⟨st.ext.step x_ (fun c hc=>st.own.1.2 c hc),C_,st.own.2.2.ext x_ (fun g H k hk hkb=>st.own.2.1 g H k hkb hk),⟨st.facts.size,rfl,st.facts.h_⟩⟩;exact⟨by simp,.inl ⟨b,_,rfl,run_takeDeferred K,this⟩⟩
end
def DU{t:Ty}(Q:P.funcs[f]? =some fn)(K:fn.body=some c)(hN:fn.ntmps=N)(hn:Nat.ble ts.length N=true)(h: ∀w0 S0,CG ⟨P,⟨N,[]⟩,sq,w0,S0,none⟩ (bodyPostM (fw none) 0 P fn (IE ⟨P,⟨N,[]⟩,sq,w0,S0,none⟩ t)) c [] (wE 0 ts)):cN P f ts t:=by
 subst hN;intro w S vs hs hv;exact nG.1 (callsIn_of_wp_marks (F:=fw none) (n:=0) Q K trivial (h w S _ w S ⟨ji.refl _ _ _,hs,trivial,qU hv _ (rx hn)⟩))
def rT(t:Ty):Rp Unit where
 sz:=1
 agg:=false
 rc:=fun S cs _=> ∃v,cs=[v]/\v.oneCell' =true/\t.p S v
 mono:=fun h ⟨v,e,k,l⟩=>⟨v,e,k,t.mono h l⟩
 len:=fun⟨_,e,_⟩=>by rw [e];rfl
 one:=fun⟨v,e,k,_⟩ c hc=>by rw [e]at hc;simp at hc;subst hc;exact k
 sc:=fun _=>rfl
def tRT{t:Ty}{u:Unit}{v:Value}:(tD (rT t) u).p S v↔v.oneCell' =true/\t.p S v:=by
 constructor
 ·rintro⟨cs,rfl,w,rfl,D,V⟩;exact⟨D,V⟩
 ·rintro⟨D,V⟩;exact⟨[v],rfl,v,rfl,D,V⟩
variable{k' :IntKind}{lo:Int}
section
variable{ty:TypeId}
def ck.imp{t u:Ty}(h:ck E O G o t)(k: ∀S v,t.p S v->u.p S v):ck E O G o u:=fun a w S hs ho Q=>
 qk (fun _ _ ⟨v,S',D,V,Z,h4⟩=>⟨v,S',D,V,Z,k S' v h4⟩) (h a w S hs ho Q)
def KP{res:β->Ty}{f:α->Option β}(I:aG E.N G x (iM E.P args res f)):ck E O G ⟨dst,.box T x,ty,pos,after,g⟩ (aY (rT (iM E.P args res f)) ()):=
 PE (fun S a Q=>tRT.2 ⟨by obtain⟨_,_,e,_⟩:=I S a Q;rw [e];rfl,I S a Q⟩)
def Dj{t:Ty}(ti:TI E.P U 1 bytes false z)(hp:aG E.N G p (aY (rT t) ())):ck E O G ⟨dst,.load U p,ty,pos,after,g⟩ t:=
 (eJ (r:=rT t) (x:=()) ti rfl rfl hp).imp fun _ _ h=>(tRT.1 h).2
def U3:rV.rc S [.slice none 0 0] (ak none 0 0):=⟨rfl,rfl⟩
def Ih{N:Fr}(h:aG N G x (tV (ak l cap n))):aG N G x (tD rV (ak l cap n)):=fun S a Q=>yS.2 ⟨h S a Q,by cases l<;>rfl⟩
def u9(ti:TI E.P U 1 bytes false z)(hm:bx rV T b (ak l cap n)∈O)(hp:aG E.N G p (tV (an b 0))):
  ck E O G ⟨dst,.load U p,ty,pos,after,g⟩ (tV (ak l cap n)):=(ay (q:=rV) (get:=fun x=>x) ti rfl rfl bC hm hp).imp fun _ _ h=>(yS.1 h).1
def fz{α:Type}(xs:List α)(lo hi:Int):Option (List α):=if 0<=lo/\lo<=hi/\hi<=(xs.length:Int)then some ((xs.take hi.toNat).drop lo.toNat)else none
def iQ(h:fz xs lo hi=some ys): ∃l m:Nat,lo=l/\hi=m/\l<=m/\m<=xs.length/\ys=(xs.take m).drop l:=by
 unfold fz at h;split at h
 ·rename_i hc;exact⟨lo.toNat,hi.toNat,by omega,by omega,by omega,by omega,by simpa using h.symm⟩
 ·cases h
def Cf{a:Option Addr}{l m:Nat}(h:Mh r S a xs)(hl:l<=m)(hm:m<=xs.length)(hc:xs.length<=cap):
  Mh r S (if cap=l then a else a.map (·.add (l*r.sz))) ((xs.take m).drop l):=by
 by_cases hlm:l=m
 ·left;subst hlm;simp
 right;rcases h with h|⟨b,off,c,T,fr,e1,e2,e3⟩
 ·subst h;simp at hm;omega
 subst e1;have Q_: ¬(cap=l):=by omega
 refine⟨b,off+l*r.sz,c,T,fr,?_,e2,?_⟩
 ·rw [aZ Q_];simp [Addr.add]
 have hlen:((xs.take m).drop l).length=m-l:=by simp;omega
 have e4:xs=(xs.take m).take l++((xs.take m).drop l++xs.drop m):=by
  rw [<-gJ,vn,vn]
 have D:((xs.take m).take l).length=l:=by simp;omega
 rw [e4]at e3;have V:=(sL e3).2;have Z:=(sL V).1;rw [D]at Z;rw [hlen]at Z ⊢;rw [<-e4]at Z;rw [BF,B5,vE]at Z;have hmin:min ((m-l)*r.sz) (xs.length*r.sz-l*r.sz)=(m-l)*r.sz:=by
  rw [<-Nat.sub_mul];exact Bq (FW _ (by omega))
 rwa [hmin]at Z
def o7{n:Int}{y:Nat}{code:BoundsCode}(h0:0<=n)(D:n<=y):(Instr.sliceBound (.int k n) y code).run P w= .ok n.toNat w:=by
 simp [Instr.sliceBound,asIntOf,h0,D]
def Tf{lo hi:Operand}{i:Int}(Y:E.P.underlying t=some (.slice T))(ti:TI E.P T sz bytes agg z)(k_:r.sz=sz)(I:aG E.N G x (tD (eW r) xs))(hlo:aG E.N G lo (tD (rI k) i))(hhi:aG E.N G hi (tD (rI k') j))(h:fz xs i j=some ys):ck E O G ⟨dst,.slice t x (some lo) (some hi) none,ty,pos,after,g⟩ (tD (eW r) ys):=
 .of_pure fun a w S _ _ Q=>by
  subst k_;obtain⟨ad,cap,D,V,Z,h4⟩:=oV.1 (I S a Q);have h5:=gm.1 (hlo S a Q);have h6:=gm.1 (hhi S a Q);obtain⟨l,m,rfl,rfl,h7,h8,rfl⟩:=iQ h;have hlen:((xs.take m).drop l).length=m-l:=by simp;omega
  refine⟨.slice (if cap=l then ad else ad.map (·.add (l*r.sz))) (m-l) (cap-l),?_,oV.2 ⟨_,cap-l,by rw [hlen],by omega,by omega,Cf h4 h7 h8 V⟩⟩;simp [execOp,Instr.sliceAt,D,h5,h6,Instr.slice,lc Y,Instr.sliceBounds,o7 (k:=k') (n:=(m:Int)) (y:=cap) (by omega) (by omega),o7 (k:=k) (n:=(l:Int)) (y:=m) (by omega) (by omega),ti.sizeOf]
end
def mS{id:Nat}(m:Nat)(hm:E.P.follows .mixedOrders=true)(hsl:yU E.N.n [] (L.take m)=true)(hlen:ts.length=(L.take m).length)(Y:BM L (L.take m).length (L.drop m).length=true)(hd:DR E O G L ts 0 (L.take m))(k:RG E L.toArray hf (L.drop m) O (Pz (L.take m) ts G)):CG E hf (.region id L.toArray true) O G:=WF (vn m L).symm hm hsl hlen Y hd k
def rl(P:Program){α:Type} [DecidableEq α](t:TypeId)(r:Rp α)(n:Nat):Prop:=
 ∀(S:SH) (cs ds:List Value) (x y:α) (d:Nat) (w:World),r.rc S cs x->r.rc S ds y->(Op.equalIn (d+n) t (r.val cs) (r.val ds)).run P w= .ok (decide (x=y)) w
def DC(h:P.underlying t=some (.int k')):rl P t (rI k) (n+1):=fun S cs ds x y d w I hy=>by
 have D:cs=[.int k x]:=I;have V:ds=[.int k y]:=hy;subst D V;have:(Op.equalIn (d+n+1) t (.int k x) (.int k y)).run P w= .ok (x==y) w:=by simp [Op.equalIn,lc h]
 have e:(x==y)=decide (x=y):=by by_cases h:x=y<;>simp [h]
 rw [e]at this;exact this
def Wa(h:P.underlying t=some .bool):rl P t rB (n+1):=fun S cs ds x y d w I hy=>by
 have D:cs=[.bool x]:=I;have V:ds=[.bool y]:=hy;subst D V;have:=run_equalIn_bool' (P:=P) w (d+n) t x y h;simp only [Rp.val,rB,List.headD_cons,qD,lS];rw [show d+(n+1)=d+n+1 from rfl,this];cases x<;>cases y<;>rfl
def YK(h:P.underlying t=some .string):rl P t rS (n+1):=fun S cs ds x y d w I hy=>by
 have D:cs=[.string ⟨x.toArray⟩]:=I;have V:ds=[.string ⟨y.toArray⟩]:=hy;subst D V;have:=run_equalIn_string (P:=P) w (d+n) t ⟨x.toArray⟩ ⟨y.toArray⟩ h;simp only [Rp.val,rS,List.headD_cons,qD,lS];rw [show d+(n+1)=d+n+1 from rfl,this];simp only [ByteArray.toList_eq];by_cases e:x=y<;>simp [e]
abbrev Fd:=TypeId×Nat×Bool
def PY(f:Field):Fd:=(f.type,f.offset,f.name== "_")
def TP(d:Nat)(xs ys:Array Value):List Fd->Sem Bool
 |[]=>pure true
 |f::fs=>
  if f.2.2=false then do
   let a<-part f.1 xs f.2.1
   let b<-part f.1 ys f.2.1
   let r<-Op.equalIn d f.1 a b
   if(!r)=true then pure false else TP d xs ys fs
  else TP d xs ys fs
def NQ(d:Nat)(xs ys:Array Value): ∀fs:List Field,Op.eqFields d xs ys fs=TP d xs ys (fs.map PY)
 |[]=>rfl
 |f::fs=>by
  unfold Op.eqFields TP;rw [NQ d xs ys fs];by_cases h:f.name= "_"
  ·have e:((PY f).2.2=false)=False:=by simp [PY,h]
   simp only [vi,e,lS];rw [aZ (by simpa using h)]
  ·have e:((PY f).2.2=false)=True:=by simp [PY,h]
   simp only [vi,e,mF];rw [bq (by simpa using h)];rfl
def Sp(P:Program){α:Type}(r:Rp α)(n:Nat)(fs:List Fd)(c:α->α->Bool):Prop:=
 ∀(S:SH) (cs ds:List Value) (x y:α) (d:Nat) (w:World),r.rc S cs x->r.rc S ds y->(TP (d+n) cs.toArray ds.toArray fs).run P w= .ok (c x y) w
def Sp.nil:Sp P r n [] (fun _ _=>true):=fun _ _ _ _ _ _ _ _ _=>rfl
def vL(ti:TI P t sz bytes agg z)(k_:q.sz=sz)(hag:q.agg=agg)(Q:mT r off q get){cs:List Value}{x:α}(I:r.rc S cs x)(w:World):
  (part t cs.toArray off).run P w= .ok (q.val ((cs.drop off).take q.sz)) w:=by
 have h:=Q S cs x I;have hl:=q.len h;subst k_ hag;unfold part;by_cases ha:q.agg=true
 ·have e1:=ti.isAgg w;simp only [uc,e1,ha,vm,mF,ti.sizeOf,GE];unfold Rp.val;rw [bq ha];congr 2;apply Array.ext';simp
 ·rw [B6]at ha;have e1:=ti.isAgg w;have hs1:=q.sc ha;simp only [uc,e1,ha,vm,qD,lS];rw [hs1]at hl ⊢;obtain⟨v,hv⟩:=List.length_eq_one_iff.1 hl;have hc:cs[off]? =some v:=by
   have:((cs.drop off).take 1)[0]? =some v:=by rw [hv];rfl
   rw [zT (by omega),xT]at this;simpa using this
  unfold Rp.val;rw [hv,ha];simp [hc]
def Sp.cons [DecidableEq β]{t:Nat}{fs:List Fd}{c:α->α->Bool}(ti:TI P t sz bytes agg z)(k_:q.sz=sz)(hag:q.agg=agg)(Q:mT r off q get)(he:rl P t q n)(hr:Sp P r n fs c):
  Sp P r n ((t,off,false)::fs) (fun x y=>decide (get x=get y)&&c x y):=fun S cs ds x y d w I hy=>by
 have D:=vL ti k_ hag Q I w;have V:=vL ti k_ hag Q hy w;have Z:=he S _ _ _ _ d w (Q S cs x I) (Q S ds y hy);unfold TP;simp only [mF,uc,D,V,Z,vm];by_cases e:get x=get y
 ·simp only [e,decide_true,s6,qD,lS,sX];exact hr S cs ds x y d w I hy
 ·simp [e]
def HT [DecidableEq α]{t:Nat}{fs:List Fd}{c:α->α->Bool}(Y:(P.underlying t).map (fun d=>match d with| .struct l=>(true,l.toList.map PY)|_=>(false,[]))=some (true,fs))(hp:P.stoodInHeld t=false)(ha:r.agg=true)(hr:Sp P r n fs c)(hc: ∀x y,c x y=decide (x=y)):rl P t r (n+1):=fun S cs ds x y d w I hy=>by
 obtain⟨l,D,V⟩: ∃l,P.underlying t=some (.struct l)/\l.toList.map PY=fs:=by
  cases hu:P.underlying t with
  |none=>rw [hu]at Y;cases Y
  |some d=>
   rw [hu]at Y;cases d<;>simp at Y;exact⟨_,rfl,Y⟩
 have hfo:P.fieldsOf t=l:=by unfold Program.fieldsOf;rw [D]
 have:=run_equalIn_struct (P:=P) w (d+n) t cs.toArray ds.toArray (by rw [hfo];exact D) hp;rw [vJ ha,vJ ha,show d+(n+1)=d+n+1 from rfl,this,hfo,NQ,V,hr S cs ds x y d w I hy,hc]
def rl.up [DecidableEq α](h:rl P t r n)(m:Nat):rl P t r (m+n):=fun S cs ds x y d w I hy=>by
 have:=h S cs ds x y (d+m) w I hy
 rwa [IN]at this
def Ux.of [DecidableEq α](H:P.eqGuardType P.depth t=false)(h:rl P t r 20):Ux P t r:=⟨H,fun S cs ds x y d w I hy=>h S cs ds x y d w I hy⟩
def Wh{l:List α}{e:α}(h:xs.drop i=e::l):decide ((i:Int)<(xs.length:Int))=true:=by
 have:i<xs.length:=by
  rcases mN i xs.length with h' |h'
  ·exact h'
  ·rw [FX h']at h;cases h
 simp;omega
def Zx(h:xs.drop i=[]):decide ((i:Int)<(xs.length:Int))=false:=by
 have:=GI.1 h;simp;omega
def cV{l:List α}{e:α}(h:xs.drop i=e::l):xs.drop (i+1)=l:=by
 rw [<-vE,h];rfl
def dE{l:List α}{e:α}(h:xs.drop i=e::l):dm xs (i:Int)=some e:=by
 rw [bR];have:=xT (xs:=xs) (i:=i) (j:=0);rw [h]at this;simpa using this.symm
def JR{l:List α}{e:α}(h:xs.drop i=e::l)(hN:xs.length<=maxLen):i<9223372036854775807:=by
 have:=of_decide_eq_true (Wh h);simp only [maxLen]at hN;omega
def aaI{k:Nat}(h:N-i=k+1):decide ((i:Int)<(N:Int))=true:=by simp;omega
def aaJ(h:N-i=0):decide ((i:Int)<(N:Int))=false:=by simp;omega
def Vi{k:Nat}(h:N-i=k+1):N-(i+1)=k:=by omega
def Vj{k:Nat}(h:N-i=k+1)(hN:N<=9223372036854775807):i<9223372036854775807:=by omega
def acR(h:n<=maxLen):n<=9223372036854775807:=by simp only [maxLen]at h;omega
variable{ix:Operand}{zs:List α}
section
variable{e:Exit}
section
variable{ty:TypeId}
def Bb{one:Operand}{xt yt:TypeId}(hi:i<9223372036854775807)(I:aG E.N G x (tD (rI .i64) (i:Int)))(D:aG E.N G one (tD (rI .i64) 1)):
  ck E O G ⟨dst,.binOp .add xt x one yt,ty,pos,after,g⟩ (tD (rI .i64) ((i+1:Nat):Int)):=by
 have e:i64.wrap ((i:Int)+1)=((i+1:Nat):Int):=by
  rw [wrap_i64];omega
 have:=nT (E:=E) (O:=O) (dst:=dst) (ty:=ty) (pos:=pos) (after:=after) (g:=g) (xt:=xt) (yt:=yt) I D
 rwa [e]at this
end
def oB(hm:nU mm r T l cap xs∈O)(h:xs.length<=maxLen->CG E hf c O G):CG E hf c O G:=fun a w S st=>by
 refine h ?_ a w S st;obtain⟨cells,D,_⟩:=(st.own.mem _ hm).1
 cases l with
 |none=>have:=D.1;omega
 |some b=>obtain⟨cur,_,g2,g3,_⟩:=D;exact pG g2 g3
def St.dataAt{k:Nat}(h:St E O G a w S)(hk:look G k=some (tO r l cap xs)):St E O ((k,tD (eW r) xs)::G) a w S:=h.cons (h.facts.h_ k _ hk).2
def Un(k:Nat)(hk:look G k=some (tO r l cap xs))(h:CG E hf c O ((k,tD (eW r) xs)::G)):CG E hf c O G:=fun a w S st=>h a w S (st.dataAt hk)
def n6(k:Nat)(hk:look G k=some (tO r l cap xs))(h:AT E hf e O ((k,tD (eW r) xs)::G)):AT E hf e O G:=fun a w S st=>h a w S (st.dataAt hk)
def qv(l:Option Nat)(off:Nat):Value:=
 match l with
 |none=> .pointer none
 |some b=>an b off
def wv(h:AP mm r T l cap xs w S){e:α}(hi:xs[i]? =some e):
  ∃b cur,l=some b/\w.heap[b]? =some (.cells cur T (0,0))/\xs.length<=cap/\cur.size=cap*r.sz/\r.rc S ((cur.toList.drop (i*r.sz)).take r.sz) e:=by
 obtain⟨cells,D,V,_⟩:=h;have o_:=(oC.1 hi).1
 cases l with
 |none=>have:=D.1;omega
 |some b=>
  obtain⟨cur,g1,g2,g3,g4,g5⟩:=D;refine⟨b,cur,rfl,g1,g2,g4,?_⟩;have Z:=Gn V hi;rw [<-g5,BF,B5]at Z;have h4:i*r.sz+r.sz<=xs.length*r.sz:=by
   rw [<-Nat.succ_mul];exact FW _ o_
  rwa [Bq (by omega)]at Z
def ou{i:Int}{e:α}(h:dm xs i=some e):0<=i/\xs[i.toNat]? =some e:=by
 unfold dm at h;split at h
 ·exact⟨by assumption,h⟩
 ·cases h
section
variable{ty:TypeId}
def c9{e:TypeId}{i:Int}(Y:E.P.underlying t=some (.slice e))(ti:TI E.P e sz bytes agg z)(hm:nU mm r U l cap xs∈O)(I:aG E.N G x (tV (ak l cap n)))(hi:aG E.N G ix (tD (rI k) i))(hy:dm xs i=some y)(hn:n=xs.length:=by rfl):
  ck E O G ⟨dst,.indexAddr t x ix,ty,pos,after,g⟩ (tV (qv l (i.toNat*sz+0))):=
 .of_pure fun a w S _ ho Q=>by
  subst hn;have D:a.eval x=ak l cap xs.length:=I S a Q;have Z:a.eval ix= .int k i:=gm.1 (hi S a Q);obtain⟨h0,hy'⟩:=ou hy;obtain⟨b,cur,rfl,_⟩:=wv (ho.mem _ hm).1 hy';have o_:i.toNat<xs.length:=(oC.1 hy').1;refine⟨_,?_,rfl⟩;have hc:0<=i/\i<(xs.length:Int):=⟨h0,by omega⟩;simp [execOp,D,Z,ak,Instr.indexAt,asIntOf,lc Y,hc,ti.sizeOf,kL,qv,an]
def il{J_:Nat}{i:Int}(ti:TI E.P T sz bytes agg z)(k_:q.sz=sz)(hag:q.agg=agg)(hget:mT r J_ q get)(hoff:Nat.ble (J_+q.sz) r.sz=true)(hm:nU mm r U l cap xs∈O)(hy:dm xs i=some y)(hp:aG E.N G p (tV (qv l (i.toNat*r.sz+J_)))):ck E O G ⟨dst,.load T p,ty,pos,after,g⟩ (tD q (get y)):=
 .of_pure fun a w S _ ho Q=>by
  have D:a.eval p=qv l (i.toNat*r.sz+J_):=hp S a Q;obtain⟨h0,hy'⟩:=ou hy;obtain⟨b,cur,rfl,K,_,_,h6⟩:=wv (ho.mem _ hm).1 hy';have hoff' :=rx hoff;have h7:=hget S _ _ h6;rw [BF,B5,vE,Bq (by omega)]at h7;refine⟨_,?_,_,rfl,h7⟩;simp [execOp,D,qv,an,Instr.loadAt,Instr.sureAddr,nv ti K k_ hag h7]
def Ix{o:Nat}(Q:cb E.P T i=some (off,sz))(h0:Nat.beq sz 0=false)(hm:nU mm r U l cap xs∈O)(hy:dm xs j=some y)(hp:aG E.N G p (tV (qv l o))):
  ck E O G ⟨dst,.fieldAddr T p i,ty,pos,after,g⟩ (tV (qv l (o+off))):=
 .of_pure fun a w S _ ho hF=>by
  have D:a.eval p=qv l o:=hp S a hF;obtain⟨_,hy'⟩:=ou hy;obtain⟨b,cur,rfl,_⟩:=wv (ho.mem _ hm).1 hy';obtain⟨fs,f,e1,e2,e3,e4⟩:=Et Q;have h0' :sz≠0:=fun e=>by subst e;simp at h0
  refine⟨_,?_,rfl⟩;simp [execOp,D,qv,an,Instr.fieldAt,lc e1,e2,Instr.sureAddr,fieldPlace,e4,h0',e3,kL]
end
def KC{α:Type}{r:Rp α}{S:SH}{y:α}{c:List Value}(hc:r.rc S c y): ∀{xs:List α} {i:Nat} {cs:List Value},vq r S cs xs->i<xs.length->vq r S (cs.take (i*r.sz)++c++cs.drop (i*r.sz+r.sz)) (xs.set i y)
 |[],_,_,_,h=>by simp at h
 |x::xs,0,cs,⟨a,b,e,D,V⟩,_=>by
  have hl:=r.len D;refine⟨c,b,?_,hc,V⟩;rw [e,<-hl];simp
 |x::xs,i+1,cs,⟨a,b,e,D,V⟩,h=>by
  have hl:=r.len D;have ih:=KC hc V (i:=i) (by simpa using h);refine⟨a,_,?_,D,ih⟩;have e1:(i+1)*r.sz=a.length+i*r.sz:=by rw [hl,uT];omega
  rw [e,e1,List.take_length_add_append,IN,List.drop_length_add_append];simp
def pw{set:α->β->α}{J_:Nat}{v:β}{i:Int}{ty:TypeId}(ti:TI E.P T sz bytes agg z)(k_:q.sz=sz)(I_:gn r J_ q set)(hoff:Nat.ble (J_+q.sz) r.sz=true)(hy:dm xs i=some y)(hz:xs.set i.toNat (set y v)=zs)(hp:aG E.N G p (tV (qv l (i.toNat*r.sz+J_))))(I:aG E.N G x (tD q v))(k:RG E ops hf rest (fa r U l cap zs::O) G):
  RG E ops hf (⟨none,.store T p x,ty,pos,after,none⟩::rest) (fa r U l cap xs::O) G:= .of rfl fun a w S st=>by
 subst hz;have D:a.eval p=qv l (i.toNat*r.sz+J_):=hp S a st.facts;obtain⟨ds,V,Z⟩:=I S a st.facts;obtain⟨h0,hy'⟩:=ou hy;have o_:i.toNat<xs.length:=(oC.1 hy').1;obtain⟨cells,hraw,hrc,G_⟩:=st.own.1.1;obtain⟨b,cur,rfl,K,hle,hcs,h6⟩:=wv st.own.1.1 hy';obtain⟨cur',hb',hle',hmax,hcs',hct⟩:=hraw;have hcc:cur' =cur:=by rw [K]at hb';injection hb' with e;injection e with e1;exact e1.symm
 subst hcc;have hno' :S b=none:=G_ b rfl;have hoff' :=rx hoff;have hl3:=q.len Z;have hmul:i.toNat*r.sz+r.sz<=xs.length*r.sz:=by rw [<-Nat.succ_mul];exact FW _ o_
 have hmul2:xs.length*r.sz<=cur'.size:=by rw [hcs];exact FW _ hle
 obtain⟨w',hr,e1,e2,e3,e4,e5,e6⟩:=nV ti k_ Z K (off:=i.toNat*r.sz+J_) (by omega);have u_:(execOp a.eval ⟨none,.store T p x,ty,pos,after,none⟩).run E.P w= .ok .skip w' :=by
  simp [execOp,D,V,Instr.storeAt,qv,an,Instr.sureAddr,hr]
 refine⟨fun c h=>(by cases h),?_⟩;rw [u_];have hnew:=I_ S _ _ _ _ h6 Z;have hrc' :=KC hnew hrc o_;have hcl:=pM hrc;have hcells:(cur'.toList.take (i.toNat*r.sz+J_)++ds++cur'.toList.drop (i.toNat*r.sz+J_+q.sz)).take (xs.length*r.sz)=
   cells.take (i.toNat*r.sz)++(((cur'.toList.drop (i.toNat*r.sz)).take r.sz).take J_++ds++((cur'.toList.drop (i.toNat*r.sz)).take r.sz).drop (J_+q.sz))++cells.drop (i.toNat*r.sz+r.sz):=by
  subst hct;apply IT;intro j;simp only [List.getElem?_take,List.getElem?_append,xT,Br,E2,jY,GH];rcases mN j (xs.length*r.sz)with hj|hj
  ·simp only [hj,mF];rcases mN j (i.toNat*r.sz)with hj1|hj1
   ·rw [bq (by omega),bq (by omega),bq (by omega),bq (by omega),bq (by omega),bq (by omega)]
   ·rcases mN j (i.toNat*r.sz+J_)with hj2|hj2
    ·rw [bq (by omega),bq (by omega),bq (by omega),bq (by omega),aZ (by omega),bq (by omega),bq (by omega),bq (by omega),bq (by omega)];congr 1;omega
    ·rcases mN j (i.toNat*r.sz+J_+q.sz)with hj3|hj3
     ·rw [bq (by omega),aZ (by omega),bq (by omega),aZ (by omega),bq (by omega),aZ (by omega)];congr 1;omega
     ·rw [aZ (by omega)];rcases mN j (i.toNat*r.sz+r.sz)with hj4|hj4
      ·rw [bq (by omega),aZ (by omega),aZ (by omega),bq (by omega)];congr 1;omega
      ·rw [aZ (by omega),bq (by omega)];congr 1;omega
  ·rw [aZ (by omega),aZ (by omega),aZ (by omega)]
 obtain⟨g1,g2,g3⟩:=q8 (O:=O) st.sat (fa r U (some b) cap xs) (fa r U (some b) cap (xs.set i.toNat (set y v))) st.own (fun k=>⟨fun h=>(qr h).symm,fun h=>by rw [h];rfl⟩) (fun k=>⟨fun h=>(qr h).symm,fun h=>by rw [h];rfl⟩) ⟨e1,e2,e3,e4.1,e4.2⟩ e6
  ⟨_,⟨_,e5,by rw [E1];exact hle,hmax,by simp only [IS,jY,Br,E2,GH];omega,by rw [E1];exact hcells⟩,hrc',fun k hk=>by rw [<-qr hk];exact hno'⟩ hno'
 exact k _ _ S ⟨st.ext.step g1 (fun c hc=>st.own.1.2 c (by rw [hc];rfl)),g2,g3,st.facts⟩
def o4(sz:Nat)(l:Option Nat)(cap lo n:Nat):Value:=
 match l with
 |none=> .slice none 0 0
 |some b=> .slice (some ⟨b,if cap=lo then 0 else lo*sz,none⟩) n (cap-lo)
section
variable{ty:TypeId}
def Jl(h:AP mm r U l cap xs w S): ∃ad c,ak l cap xs.length= .slice ad xs.length c/\xs.length<=c/\ad=l.map (fun b=>⟨b,0,none⟩)/\(l=none->c=0/\xs=[])/\(l≠none->c=cap):=by
 obtain⟨cells,D,_⟩:=h
 cases l with
 |none=>
  have I:xs=[]:=uS D.1;subst I;exact⟨none,0,rfl,eX _,rfl,fun _=>⟨rfl,rfl⟩,fun h=>absurd rfl h⟩
 |some b=>
  obtain⟨cur,_,g2,_⟩:=D;exact⟨_,cap,rfl,g2,rfl,fun h=>(by cases h),fun _=>rfl⟩
def qO{hi:Operand}(Y:E.P.underlying t=some (.slice T))(ti:TI E.P T sz bytes agg z)(k_:r.sz=sz)(hm:nU mm r U l cap xs∈O)(I:aG E.N G x (tV (ak l cap n)))(hhi:aG E.N G hi (tD (rI k') j))(h:fz xs 0 j=some ys)(hn:n=xs.length:=by rfl):ck E O G ⟨dst,.slice t x none (some hi) none,ty,pos,after,g⟩ (tV (ak l cap ys.length)):=
 .of_pure fun a w S _ ho Q=>by
  subst k_;subst hn;have D:a.eval x=ak l cap xs.length:=I S a Q;obtain⟨ad,c,V,Z,h4,h5,h5'⟩:=Jl (ho.mem _ hm).1;have h6:=gm.1 (hhi S a Q);obtain⟨lo,m,hl,rfl,h7,h8,rfl⟩:=iQ h;have hl0:lo=0:=by omega
  subst hl0;have hlen:((xs.take m).drop 0).length=m:=by simp;omega
  refine⟨_,?_,rfl⟩;rw [V]at D;have hr:(execOp a.eval ⟨dst,.slice t x none (some hi) none,ty,pos,after,g⟩).run E.P w= .ok (.value (.slice ad m c)) w:=by
   simp [execOp,Instr.sliceAt,D,h6,Instr.slice,lc Y,Instr.sliceBounds,o7 (k:=k') (n:=(m:Int)) (y:=c) (by omega) (by omega),ti.sizeOf];cases ad<;>simp [Addr.add]
  rw [hr,hlen,h4]
  cases l with
  |none=>
   obtain⟨rfl,rfl⟩:=h5 rfl;have:m=0:=by simpa using h8
   subst this;rfl
  |some b=>rw [h5' (by simp)];rfl
def qN{lo:Operand}{i:Int}(Y:E.P.underlying t=some (.slice T))(ti:TI E.P T sz bytes agg z)(k_:r.sz=sz)(hm:nU mm r U l cap xs∈O)(I:aG E.N G x (tV (ak l cap n)))(hlo:aG E.N G lo (tD (rI k) i))(h:fz xs i (xs.length:Int)=some ys)(hn:n=xs.length:=by rfl):ck E O G ⟨dst,.slice t x (some lo) none none,ty,pos,after,g⟩ (tV (o4 sz l cap i.toNat ys.length)):=
 .of_pure fun a w S _ ho Q=>by
  subst k_;subst hn;have D:a.eval x=ak l cap xs.length:=I S a Q;obtain⟨ad,c,V,Z,h4,h5,h5'⟩:=Jl (ho.mem _ hm).1;have h6:=gm.1 (hlo S a Q);obtain⟨lo',m,rfl,hm',h7,h8,rfl⟩:=iQ h;have hm2:m=xs.length:=by omega
  subst hm2;have hlen:((xs.take xs.length).drop lo').length=xs.length-lo' :=by simp
  refine⟨_,?_,rfl⟩;rw [V]at D;have hr:(execOp a.eval ⟨dst,.slice t x (some lo) none none,ty,pos,after,g⟩).run E.P w= .ok (.value (.slice (if c=lo' then ad else ad.map (·.add (lo' *r.sz))) (xs.length-lo') (c-lo'))) w:=by
   simp [execOp,Instr.sliceAt,D,h6,Instr.slice,lc Y,Instr.sliceBounds,o7 (k:=k) (n:=(lo' :Int)) (y:=xs.length) (by omega) (by omega),ti.sizeOf]
  rw [hr,hlen,h4]
  cases l with
  |none=>
   obtain⟨rfl,rfl⟩:=h5 rfl;have:lo' =0:=by simpa using h7
   subst this;rfl
  |some b=>
   rw [h5' (by simp)];unfold o4;simp only [yJ,GG,kL,oZ];split<;>rfl
def Ce{i:Int}(h:fz xs lo hi=some ys)(hy:dm ys i=some y):dm xs (lo+i)=some y/\0<=lo/\0<=i:=by
 obtain⟨l,m,rfl,rfl,D,V,rfl⟩:=iQ h;obtain⟨h0,Z⟩:=ou hy;refine⟨?_,by omega,h0⟩;obtain⟨j,rfl⟩: ∃j:Nat,i=j:=⟨i.toNat,by omega⟩;rw [show((l:Int)+(j:Int))=((l+j:Nat):Int)from by omega,bR];rw [xT,yJ]at Z;have o_:l+j<m:=by
  have:=(oC.1 Z).1;simp at this;omega
 rwa [zT o_]at Z
def BT{e:TypeId}{i:Int}(Y:E.P.underlying t=some (.slice e))(ti:TI E.P e sz bytes agg z)(k_:r.sz=sz)(hm:nU mm r U l cap xs∈O)(hs:fz xs lo hi=some ys)(I:aG E.N G x (tV (o4 sz l cap lo.toNat ys.length)))(hi' :aG E.N G ix (tD (rI k) i))(hy:dm ys i=some y):
  ck E O G ⟨dst,.indexAddr t x ix,ty,pos,after,g⟩ (tV (qv l ((lo+i).toNat*sz+0))):=
 .of_pure fun a w S _ ho Q=>by
  subst k_;have D:a.eval x=o4 r.sz l cap lo.toNat ys.length:=I S a Q;have Z:a.eval ix= .int k i:=gm.1 (hi' S a Q);obtain⟨hxi,hl0,hi0⟩:=Ce hs hy;obtain⟨_,hx'⟩:=ou hxi;obtain⟨b,cur,rfl,_,hle,_⟩:=wv (ho.mem _ hm).1 hx';have o_:i.toNat<ys.length:=(oC.1 (ou hy).2).1;have hlt2:(lo+i).toNat<xs.length:=(oC.1 hx').1;have Q_: ¬(cap=lo.toNat):=by omega
  refine⟨_,?_,rfl⟩;have hc:0<=i/\i<(ys.length:Int):=⟨hi0,by omega⟩;have e1:(lo+i).toNat=lo.toNat+i.toNat:=by omega
  simp [execOp,D,Z,o4,Q_,Instr.indexAt,asIntOf,lc Y,hc,ti.sizeOf,kL,qv,an,e1,uT]
def Rq{e:TypeId}(Y:E.P.underlying t=some (.slice e))(hm:nU mm r U l cap xs∈O)(hs:fz xs lo hi=some ys)(I:aG E.N G x (tV (o4 sz l cap lo.toNat ys.length))):
  ck E O G ⟨dst,.call ⟨.builtin .len,#[x],#[t]⟩,ty,pos,after,g⟩ (tD (rI .i64) (ys.length:Int)):=
 .of_pure fun a w S _ ho Q=>by
  have D:a.eval x=o4 sz l cap lo.toNat ys.length:=I S a Q;obtain⟨ad,c,Z⟩: ∃ad c,o4 sz l cap lo.toNat ys.length= .slice ad ys.length c:=by
   cases l with
   |none=>
    obtain⟨_,V,_⟩:=(ho.mem _ hm).1;have hx0:xs=[]:=uS V.1;subst hx0;obtain⟨l',m,_,_,_,h8,rfl⟩:=iQ hs;exact⟨none,0,by simp [o4]⟩
   |some b=>exact⟨_,_,rfl⟩
  refine⟨.int .i64 ys.length,?_,gm.2 rfl⟩;simp [execOp,resolve,invoke,builtin,Builtin.len_,lc Y,D,Z,goInt]
end
def R6(h:fz xs 0 j=some ys)(k:AP false r U l cap xs w S):AP false r U l cap ys w S:=by
 obtain⟨lo,m,hl,rfl,h7,h8,rfl⟩:=iQ h;have hl0:lo=0:=by omega
 subst hl0;obtain⟨cells,D,V,Z⟩:=k;have hlen:((xs.take m).drop 0).length=m:=by simp;omega
 have h4:vq r S (cells.take (m*r.sz)) (xs.take m):=by
  have e:xs=xs.take m++xs.drop m:=(vn _ _).symm;rw [e]at V;have:=(sL V).1
  rwa [show(xs.take m).length=m from by simp;omega]at this
 refine⟨cells.take (m*r.sz),?_,by simpa using h4,fun b K=>Z b K⟩;rw [hlen]
 cases l with
 |none=>
  obtain⟨g1,g2⟩:=D;exact⟨by omega,by rw [g2];simp⟩
 |some b=>
  obtain⟨cur,g1,g2,g3,g4,g5⟩:=D;exact⟨cur,g1,by omega,g3,g4,by rw [<-g5,B5,Bq (FW _ h8)]⟩
def St.cut(h:fz xs 0 j=some ys)(st:St E (fa r U l cap xs::O) G a w S):St E (fa r U l cap ys::O) G a w S:=
 st.own_map fun ho=>⟨⟨R6 h ho.1.1,ho.1.2⟩,ho.2.1,ho.2.2⟩
def H5(h:fz xs 0 j=some ys)(k:RG E ops hf rest (fa r U l cap ys::O) G):RG E ops hf rest (fa r U l cap xs::O) G:=fun a w S st=>k a w S (st.cut h)
def St.viewAt{k:Nat}(hs:fz xs lo hi=some ys)(h:St E (dM r U l cap xs::O) G a w S)(hk:look G k=some (tV (o4 r.sz l cap lo.toNat ys.length))):
  St E (dM r U l cap xs::O) ((k,tD (eW r) ys)::G) a w S:=by
 have hv:a.tmps.getD k undef=o4 r.sz l cap lo.toNat ys.length:=h.facts.h_ k _ hk;refine h.cons ?_;rw [hv];obtain⟨l',m,rfl,rfl,h7,h8,rfl⟩:=iQ hs;have hd:=pY h.own.1.1;obtain⟨ad,c,D,V,Z,h4⟩:=oV.1 hd;have hlen:((xs.take m).drop l').length=m-l' :=by simp;omega
 cases l with
 |none=>
  obtain⟨cells,g1,_⟩:=h.own.1.1;have I:xs=[]:=uS g1.1;subst I;have e:((([]:List α).take m).drop l')=[]:=by simp
  rw [e];exact Gk
 |some b=>
  have e1:Value.slice (some ⟨b,0,none⟩) xs.length cap= .slice ad xs.length c:=D;injection e1 with e2 _ e3;subst e2;subst e3;have h5:=Cf h4 h7 h8 V;refine oV.2 ⟨_,cap-l',?_,by omega,by omega,h5⟩;unfold o4;simp only [yJ,hlen,GG,kL,oZ];split<;>rfl
end
variable{x0 x4 x5 x6 x7:OE}
section
variable{e:Exit}
def wP{O:List OE}(h:dR base B w S (x0::x1::x2::x3::x4::x5::O)):dR base B w S (x5::x0::x1::x2::x3::x4::O):=
 (yA h wQ (fun f Q=>by simp only [iI]at Q ⊢;rcases Q with h|h|h|h|h|h<;>simp [h])).swap
def Bm(h:RG E ops hf rest (x5::x0::x1::x2::x3::x4::O) G):RG E ops hf rest (x0::x1::x2::x3::x4::x5::O) G:=fun a w S st=>h a w S (st.own_map wP)
def dJ(h:AT E hf e (x5::x0::x1::x2::x3::x4::O) G):AT E hf e (x0::x1::x2::x3::x4::x5::O) G:=fun a w S st=>h a w S (st.own_map wP)
def ri(h:LG E hf c (x5::x0::x1::x2::x3::x4::O) G):LG E hf c (x0::x1::x2::x3::x4::x5::O) G:=fun a w S st=>h a w S (st.own_map wP)
def zz{O:List OE}(h:dR base B w S (x0::x1::x2::x3::x4::x5::x6::O)):dR base B w S (x6::x0::x1::x2::x3::x4::x5::O):=
 (yA h wP (fun f Q=>by simp only [iI]at Q ⊢;rcases Q with h|h|h|h|h|h|h<;>simp [h])).swap
def EP(h:RG E ops hf rest (x6::x0::x1::x2::x3::x4::x5::O) G):RG E ops hf rest (x0::x1::x2::x3::x4::x5::x6::O) G:=fun a w S st=>h a w S (st.own_map zz)
def mE(h:AT E hf e (x6::x0::x1::x2::x3::x4::x5::O) G):AT E hf e (x0::x1::x2::x3::x4::x5::x6::O) G:=fun a w S st=>h a w S (st.own_map zz)
def zy{O:List OE}(h:dR base B w S (x0::x1::x2::x3::x4::x5::x6::x7::O)):dR base B w S (x7::x0::x1::x2::x3::x4::x5::x6::O):=
 (yA h zz (fun f Q=>by simp only [iI]at Q ⊢;rcases Q with h|h|h|h|h|h|h|h<;>simp [h])).swap
def Ud(h:RG E ops hf rest (x7::x0::x1::x2::x3::x4::x5::x6::O) G):RG E ops hf rest (x0::x1::x2::x3::x4::x5::x6::x7::O) G:=fun a w S st=>h a w S (st.own_map zy)
def we(h:AT E hf e (x7::x0::x1::x2::x3::x4::x5::x6::O) G):AT E hf e (x0::x1::x2::x3::x4::x5::x6::x7::O) G:=fun a w S st=>h a w S (st.own_map zy)
def ES(h:LG E hf c (x7::x0::x1::x2::x3::x4::x5::x6::O) G):LG E hf c (x0::x1::x2::x3::x4::x5::x6::x7::O) G:=fun a w S st=>h a w S (st.own_map zy)
end
def gS(h:xs.set i y=zs):zs.length=xs.length:=by rw [<-h,E1]
section
def ir{m:Nat}(hl:m=n)(s:Nat)(hs:look G s=some (tV (ak l cap n)))(k:RG E ops hf rest O ((s,tV (ak l cap m))::G)):RG E ops hf rest O G:=by
 subst hl;exact fun a w S st=>k a w S (st.cons (st.facts.h_ s _ hs))
end
def gj{o1 o2:Nat}{g1:α->β}{g2:β->γ}(D:mT r o1 q g1)(V:mT q o2 s g2)(K:Nat.ble (o2+s.sz) q.sz=true:=by rfl):mT r (o1+o2) s (fun x=>g2 (g1 x)):=fun S cs x h=>by
 have Z:=V S _ _ (D S cs x h);have hb' :=rx K
 rwa [BF,B5,vE,Bq (by omega)]at Z
def AY{o1 o2:Nat}{g1:α->β}{u1:α->β->α}{u2:β->γ->β}(D:mT r o1 q g1)(k1:gn r o1 q u1)(k2:gn q o2 s u2)(K:Nat.ble (o2+s.sz) q.sz=true:=by rfl)(hc:Nat.ble (o1+q.sz) r.sz=true:=by rfl):
  gn r (o1+o2) s (fun x y=>u1 x (u2 (g1 x) y)):=fun S cs x ds y h hy=>by
 have hb' :=rx K;have hc' :=rx hc;have hl:=r.len h;have Z:=k1 S cs x _ _ h (k2 S _ _ ds y (D S cs x h) hy);have e:cs.take (o1+o2)++ds++cs.drop (o1+o2+s.sz)=cs.take o1++(((cs.drop o1).take q.sz).take o2++ds++((cs.drop o1).take q.sz).drop (o2+s.sz))++cs.drop (o1+q.sz):=by
  rw [B5,Bq (by omega),BF,vE,List.take_add,show o1+(o2+s.sz)=o1+o2+s.sz from by omega];simp only [gJ];congr 3;have e2:cs.drop (o1+q.sz)=(cs.drop (o1+o2+s.sz)).drop (q.sz-(o2+s.sz)):=by rw [vE];congr 1;omega
  rw [e2,vn]
 rw [e];exact Z
def dj(P:Program)(f:FuncId)(ts:List Ty)(O1:List OE){ι:Type}(t:ι->Ty)(O2:ι->List OE):Prop:=
 ∀w S vs,kQ w S->yw S ts vs->dR 0 sq w S O1->Calls P f vs.toArray w fun en w' => ∃i v S',en= .returned v/\(t i).p S' v/\ji (fun k=> ∃f∈O1,f.fp k) w S w' S' /\kQ w' S' /\dR 0 sq w' S' (O2 i)/\ ∀k,(∃f∈O2 i,f.fp k)->(∃f∈O1,f.fp k)\/w.heap.size<=k
def Wc(E:En)(O1:List OE){ι:Type}(t:ι->Ty)(O2:ι->List OE):Ending->World->Prop:=fun en w' =>
 ∃i v S',en= .returned v/\(t i).p S' v/\ji E.B E.w0 E.S0 w' S' /\kQ w' S' /\dR 0 sq w' S' (O2 i)/\ ∀k,(∃f∈O2 i,f.fp k)->(∃f∈O1,f.fp k)\/E.w0.heap.size<=k
def Cv(O1:List OE):Nat->Prop:=fun k=> ∃f∈O1,f.fp k
def dj.of{t:ι->Ty}(Q:P.funcs[f]? =some fn)(K:fn.body=some c)(hN:fn.ntmps=N)(hn:Nat.ble ts.length N=true)(h: ∀w0 S0,CG ⟨P,⟨N,[]⟩,Cv O1,w0,S0,none⟩ (bodyPost P fn (Wc ⟨P,⟨N,[]⟩,Cv O1,w0,S0,none⟩ O1 t O2)) c O1 (wE 0 ts)):dj P f ts O1 t O2:=by
 subst hN;intro w S vs hs hv ho;exact nG.1 (GF (F:=fw none) (n:=0) Q K trivial (h w S _ w S ⟨ji.refl _ _ _,hs,nZ ho fun f Q k hk=> .inr ⟨f,Q,hk⟩,qU hv _ (rx hn)⟩))
def Lt{t:ι->Ty}{v:Value}(st:St E O G a w S)(hB:E.B=Cv O1)(i:ι)(hO:O=O2 i)(hv:(t i).p S v):Wc E O1 t O2 (.returned v) w:=by
 subst hO;refine⟨i,v,S,rfl,hv,st.ext,st.sat,st.own.weak,fun k ⟨f,Q,hk⟩=>?_⟩;rcases(dR.mem st.own f Q).2 k hk with h|h
 ·exact .inr h
 ·rw [hB]at h;exact .inl h
section
variable{t:ι->Ty}
def fm{k:Nat}{u:Ty}(hr:fn.results= #[.tmp k])(i:ι)(hO:O=O2 i)(hk:look G k=some u)(hu: ∀S v,u.p S v->(t i).p S v):
  AT ⟨P,⟨N,[]⟩,Cv O1,w0,S0,none⟩ (bodyPost P fn (Wc ⟨P,⟨N,[]⟩,Cv O1,w0,S0,none⟩ O1 t O2)) .ret O G:=fun _ _ S st=>
 ⟨st.facts.defers,_,pZ P fn k hr _ _,Lt st rfl i hO (hu S _ (st.facts.h_ k u hk))⟩
end
def dR.join: ∀{O1 O2:List OE},dR base B w S O1->dR base B w S O2->(∀e∈O1,∀f∈O2,e.apart f)->dR base B w S (O1++O2)
 |[],_,_,h,_=>h
 |e::O1,O2,⟨D,V,Z⟩,h,ha=>⟨D,fun f Q=>(oO.1 Q).elim (V f) (ha e (pz ..) f),dR.join Z h fun g H f Q=>ha g (pA _ H) f Q⟩
section
variable{ty:TypeId}
def St.turn{Or O2:List OE}(st:St E (O1++Or) G a w S)(I:ji (fun k=> ∃f∈O1,f.fp k) w S w' S')(hs:kQ w' S')(ho:dR 0 sq w' S' O2)(hn: ∀k,(∃f∈O2,f.fp k)->(∃f∈O1,f.fp k)\/w.heap.size<=k):St E (O2++Or) G a w' S' :=by
 obtain⟨D,V,Z⟩:=qp st.own;have hbl:=st.H_;refine⟨st.ext.step I (fun b ⟨f,Q,K⟩=>(dR.mem D f Q).2 b K),hs,dR.join (nZ ho fun f Q k hk=>?_) (V.ext I fun f Q b K ⟨g,H,hgb⟩=>Z g H f Q b hgb K) (fun e he f Q b heb hfb=>?_),st.facts.mono I.keep⟩
 ·rcases hn k ⟨f,Q,hk⟩with⟨g,H,hgk⟩|h
  ·exact(dR.mem D g H).2 k hgk
  ·exact .inl (pG hbl h)
 ·rcases hn b ⟨e,he,heb⟩with⟨g,H,hgb⟩|h
  ·exact Z g H f Q b hgb hfb
  ·have:=f.here (dR.mem V f Q).1 b hfb;omega
def Og{xs:List Operand}(O1 Or:List OE){t:ι->Ty}(hO:O=O1++Or)(hc:af E.P f=true)(hs:dj E.P f ts O1 t O2)(I:k5 E.N G xs ts)(hd:Nat.blt d E.N.n=true)(k: ∀i,RG E ops hf rest (O2 i++Or) ((d,t i)::G)):
  RG E ops hf (⟨some d,.call ⟨.value (.func f),xs.toArray,ats⟩,ty,pos,after,none⟩::rest) O G:= .of rfl fun a w S st=>by
 subst hO;have hr:(execOp a.eval ⟨some d,.call ⟨.value (.func f),xs.toArray,ats⟩,ty,pos,after,none⟩).run E.P w= .ok (.enter f (xs.map a.eval).toArray) w:=by
  simp [execOp,resolve,Act.eval,Deferred.ofValue,invoke,gT hc]
 refine⟨fun c h=>(by cases h),?_⟩;rw [hr];refine(hs w S _ st.sat (I.tys st.facts) (qp st.own).1.weak).mono fun en w' ⟨i,v,S',he,hv,D,V,Z,h4⟩=>⟨_,he,?_⟩;exact k i _ _ S' ((st.turn D V Z h4).put hd hv)
end
structure OI where
 h:Nat->Option Nat×Nat:=fun _=>(none,0)
 os:List (Option Nat×Nat):=[]
 fp:Nat->Prop:=sq
 v:Value:=undef
 ng:Nat->(Option Nat×Nat)×(Nat->Option Nat×Nat):=fun _=>((none,0),fun _=>(none,0))
 oss:Nat->List (Option Nat×Nat):=fun _=>[]
def rs:OI:={}
def oi(l:Option Nat)(c:Nat):OI:={h:=fun _=>(l,c)}
def EffOK(E:En)(O:List OE)(need:oz)(o:Oper)(post:OI->List OE)(t:OI->Ty):Prop:=
 ∀a w S,kQ w S->dR E.base E.B w S O->cH E.N S a need->E.base<=w.heap.size->
  MN E.P o a w (fun a' w' => ∃v S' x,a' =a.put o.dst v/\ji (Cv O) w S w' S' /\kQ w' S' /\dR E.base E.B w' S' (post x)/\(t x).p S' v)
variable{post:OI->List OE}{t' :TypeId}
section
variable{ty:TypeId}
def HW{y:Operand}{u:OI->Ty}(ti:TI E.P T sz bytes agg z)(k_:r.sz=sz)(hz:Nat.beq z.length sz=true)(h0:Nat.blt 0 sz=true)(h128:Nat.ble bytes 2048=true)(Y:E.P.underlying t=some (.slice T))(I:aG E.N G x (tV (ak l cap n)))(hy: ∀a w S,kQ w S->cH E.N S a G-> ∃news,Src E.P r.sz t' (a.eval y) ys.length news w/\vq r S news ys)(happ:nH xs ys=some zs)(hu: ∀l' cap' w0 S,(nU mm r T l' cap' zs).p w0 S->(u (oi l' cap')).p S (ak l' cap' zs.length))(hn:n=xs.length):
  EffOK E (nU mm r T l cap xs::O) G ⟨some d,.call ⟨.builtin .append,#[x,y],#[t,t']⟩,ty,pos,after,g⟩ (fun i=>nU mm r T (i.h 0).1 (i.h 0).2 zs::O) u:=fun a w S hs ho Q K=>by
 subst hn;have D:a.eval x=ak l cap xs.length:=I S a Q;obtain⟨news,V,Z⟩:=hy a w S hs Q;obtain⟨l',cap',w',S',hr,x_,C_,hh,hnew⟩:=Ag (ty:=ty) ti k_ hz h0 h128 Y hs ho.1 K V Z happ;have u_:(execOp a.eval ⟨some d,.call ⟨.builtin .append,#[x,y],#[t,t']⟩,ty,pos,after,g⟩).run E.P w= .ok (.value (ak l' cap' zs.length)) w' :=by
  simp [execOp,resolve,invoke,builtin,D,hr]
 refine⟨fun c h=>(by cases h),?_⟩;rw [u_];refine⟨_,S',oi l' cap',rfl,x_.more fun b K=>⟨_,pz ..,K⟩,C_,⟨hh,fun f Q b K hfb=>?_,ho.2.2.ext x_ fun f Q b K hbl=>ho.2.1 f Q b hbl K⟩,hu l' cap' w' S' hh.1⟩;rcases hnew b K with h|h
 ·exact ho.2.1 f Q b h hfb
 ·have:=f.here (dR.mem ho.2.2 f Q).1 b hfb;omega
def AK{y:Operand}(ti:TI E.P T sz bytes agg z)(k_:r.sz=sz)(hz:Nat.beq z.length sz=true)(h0:Nat.blt 0 sz=true)(h128:Nat.ble bytes 2048=true)(Y:E.P.underlying t=some (.slice T))(ht' :t' =t)(I:aG E.N G x (tV (ak l cap n)))(hy:aG E.N G y (tD (eW r) ys))(happ:nH xs ys=some zs)(hn:n=xs.length:=by rfl):
  EffOK E (fa r T l cap xs::O) G ⟨some d,.call ⟨.builtin .append,#[x,y],#[t,t']⟩,ty,pos,after,g⟩ (fun i=>fa r T (i.h 0).1 (i.h 0).2 zs::O) (fun i=>tV (ak (i.h 0).1 (i.h 0).2 zs.length)):=by
 subst ht';exact HW ti k_ hz h0 h128 Y I (fun a w S hs Q=>xe Y hs (hy S a Q)) happ (fun _ _ _ _ _=>rfl) hn
def vg{y:Operand}(ti:TI E.P T sz bytes agg z)(k_:r.sz=sz)(hz:Nat.beq z.length sz=true)(h0:Nat.blt 0 sz=true)(h128:Nat.ble bytes 2048=true)(Y:E.P.underlying t=some (.slice T))(ht' :t' =t)(I:aG E.N G x (tO r l cap xs))(hy:aG E.N G y (tD (eW r) ys))(happ:nH xs ys=some zs):
  EffOK E (dM r T l cap xs::O) G ⟨some d,.call ⟨.builtin .append,#[x,y],#[t,t']⟩,ty,pos,after,g⟩ (fun i=>dM r T (i.h 0).1 (i.h 0).2 zs::O) (fun i=>tO r (i.h 0).1 (i.h 0).2 zs):=by
 subst ht';exact HW ti k_ hz h0 h128 Y (Ei I) (fun a w S hs Q=>xe Y hs (hy S a Q)) happ (fun _ _ _ _ h=>⟨rfl,pY h⟩) rfl
def TR{xs:List Operand}{u:OI->Ty}(hc:af E.P f=true)(hs:mi E.P f ts mm r T ys)(I:k5 E.N G xs ts)(hu: ∀l cap w0 S,(nU mm r T l cap ys).p w0 S->(u (oi l cap)).p S (ak l cap ys.length)):
  EffOK E O G ⟨some d,.call ⟨.value (.func f),xs.toArray,ats⟩,ty,pos,after,g⟩ (fun i=>nU mm r T (i.h 0).1 (i.h 0).2 ys::O) u:=fun a w S C_ ho Q K=>by
 have hr:(execOp a.eval ⟨some d,.call ⟨.value (.func f),xs.toArray,ats⟩,ty,pos,after,g⟩).run E.P w= .ok (.enter f (xs.map a.eval).toArray) w:=by
  simp [execOp,resolve,Act.eval,Deferred.ofValue,invoke,gT hc]
 refine⟨fun c h=>(by cases h),?_⟩;rw [hr];exact(hs w S _ C_ (I.tys Q)).mono fun e w' ⟨l,cap,S',he,D,V,Z⟩=>⟨_,he,_,S',oi l cap,rfl,D.more fun _ K=>K.elim,V,rR ho D Z.1 (fun b K=>(Z.2 b K).resolve_right id) K,hu l cap w' S' Z.1⟩
def dR.turn{Or O2:List OE}(h:dR base B w S (O1++Or))(hbl:base<=w.heap.size)(I:ji (Cv O1) w S w' S')(ho:dR 0 sq w' S' O2)(hn: ∀k,(∃f∈O2,f.fp k)->(∃f∈O1,f.fp k)\/w.heap.size<=k):dR base B w' S' (O2++Or):=by
 obtain⟨D,V,Z⟩:=qp h;refine dR.join (nZ ho fun f Q k hk=>?_) (V.ext I fun f Q b K ⟨g,H,hgb⟩=>Z g H f Q b hgb K) (fun e he f Q b heb hfb=>?_)
 ·rcases hn k ⟨f,Q,hk⟩with⟨g,H,hgk⟩|h
  ·exact(dR.mem D g H).2 k hgk
  ·exact .inl (pG hbl h)
 ·rcases hn b ⟨e,he,heb⟩with⟨g,H,hgb⟩|h
  ·exact Z g H f Q b hgb hfb
  ·have:=f.here (dR.mem V f Q).1 b hfb;omega
def jo{xs:List Operand}(O1 Or:List OE){t:OI->Ty}{O2:OI->List OE}(hO:O=O1++Or)(hc:af E.P f=true)(hs:dj E.P f ts O1 t O2)(I:k5 E.N G xs ts)(hpost: ∀i,O2 i++Or=post i):
  EffOK E O G ⟨some d,.call ⟨.value (.func f),xs.toArray,ats⟩,ty,pos,after,g⟩ post t:=fun a w S C_ ho Q K=>by
 subst hO;obtain rfl:(fun i=>O2 i++Or)=post:=funext hpost;have hr:(execOp a.eval ⟨some d,.call ⟨.value (.func f),xs.toArray,ats⟩,ty,pos,after,g⟩).run E.P w= .ok (.enter f (xs.map a.eval).toArray) w:=by
  simp [execOp,resolve,Act.eval,Deferred.ofValue,invoke,gT hc]
 refine⟨fun c h=>(by cases h),?_⟩;rw [hr];exact(hs w S _ C_ (I.tys Q) (qp ho).1.weak).mono fun en w' ⟨i,v,S',he,hv,D,V,Z,h4⟩=>⟨_,he,v,S',i,rfl,D.more fun b ⟨f,Q,K⟩=>⟨f,uR _ Q,K⟩,V,dR.turn ho K D Z h4,hv⟩
def nI{op:Op}{t:OI->Ty}(h:EffOK E O G ⟨some d,op,ty,pos,after,none⟩ post t)(hd:Nat.blt d E.N.n=true)(k: ∀x:OI,RG E ops hf rest (post x) ((d,t x)::G)):RG E ops hf (⟨some d,op,ty,pos,after,none⟩::rest) O G:= .of rfl fun a w S st=>
 qk (fun a' w' ⟨v,S',x,ha,I,hs,ho,hv⟩=>by
  subst ha;exact k x _ _ S' ⟨st.ext.step I fun b ⟨f,Q,K⟩=>(dR.mem st.own f Q).2 b K,hs,ho,(st.facts.mono I.keep).put hd hv⟩) (h a w S st.sat st.own st.facts st.H_)
end
def SA(σ:Nat->OI)(k:Nat)(x:OI):Nat->OI:=fun j=>bif Nat.beq j k then x else σ j
def Kg(σ:Nat->OI){k j:Nat}(x:OI)(h:j≠k):SA σ k x j=σ j:=by
 have:Nat.beq j k=false:=by
  cases K:Nat.beq j k with
  |false=>rfl
  |true=>exact absurd (rm K) h
 simp [SA,this]
structure NE where
 slot:Nat
 ty:(Nat->OI)->Ty
 src:Option Nat
def oy(E:En)(ops:Array Oper)(O:List OE)(need:oz)(o:Oper)(post:OI->List OE)(t:OI->Ty):Prop:=
 ∀a w S,kQ w S->dR E.base E.B w S O->cH E.N S a need->E.base<=w.heap.size->
  if Region.wanted o (yielded ops a.tmps)then MN E.P o a w (fun a' w' => ∃v S' x,a' =a.put o.dst v/\ji (Cv O) w S w' S' /\kQ w' S' /\dR E.base E.B w' S' (post x)/\(t x).p S' v)
  else∃x,dR E.base E.B w S (post x)/\(t x).p S undef
def cL{need:oz}{t:OI->Ty}(H:o.guard=none)(h:EffOK E O need o post t):oy E ops O need o post t:=fun a w S hs ho Q K=>by
 have:Region.wanted o (yielded ops a.tmps)=true:=by unfold Region.wanted;rw [H]
 rw [this,bq rfl];exact h a w S hs ho Q K
def jq(es:List Bool)(i:Nat):Nat:=(es.take i).countP (· ==true)
def Qu(L:List Oper)(es:List Bool):Bool:=(List.range es.length).all fun i=>(List.range i).all fun j=> !((es[i]?).getD false&&(es[j]?).getD false)||qy L L.length i j
structure DJE(E:En)(G:oz)(l:List Oper)(ts:List (OI->Ty))(Om:Nat->(Nat->OI)->List OE)(es:List Bool)(done:Array Bool)(a:Act)(w:World)(S:SH)(σ:Nat->OI)(c:Nat):Prop where
 ext:ji E.B E.w0 E.S0 w S
 sat:kQ w S
 own:dR E.base E.B w S (Om c σ)
 size:a.tmps.size=E.N.n
 defers:a.defers=E.N.ds
 dsz:done.size=l.length
 down: ∀j o,l[j]? =some o->done.getD j false=true-> ∀e∈o.after,Region.binds .any e=true->done.getD e.on false=true
 old: ∀k t,look G k=some t->(∀j o,l[j]? =some o->done.getD j false=true->o.dst≠some k)->t.p S (a.tmps.getD k undef)
 new: ∀j o d f,l[j]? =some o->done.getD j false=true->o.dst=some d->ts[j]? =some f->(f (σ j)).p S (a.tmps.getD d undef)
 chain: ∀k,es[k]? =some true->(done.getD k false=true↔jq es k<c)
variable{es:List Bool}
def H3: ∀{i j:Nat},i<j->es[i]? =some true->jq es i<jq es j:=by
 induction es with
 |nil=>intro i j _ h;simp at h
 |cons e es ih=>
  intro i j hij h
  cases j with
  |zero=>omega
  |succ j=>
   cases i with
   |zero=>simp at h;subst h;simp [jq]
   |succ i=>
    have:=ih (i:=i) (j:=j) (by omega) (by simpa using h);cases e<;>simp [jq]at this ⊢ <;>omega
def zw: ∀{c k:Nat},c<jq es k-> ∃i,i<k/\es[i]? =some true/\jq es i=c:=by
 induction es with
 |nil=>intro c k h;simp [jq]at h
 |cons e es ih=>
  intro c k h
  cases k with
  |zero=>simp [jq]at h
  |succ k=>
   cases e with
   |false=>
    obtain⟨i,D,V,Z⟩:=ih (c:=c) (k:=k) (by simpa [jq] using h);exact⟨i+1,by omega,by simpa using V,by simpa [jq] using Z⟩
   |true=>
    cases c with
    |zero=>exact⟨0,by omega,rfl,by simp [jq]⟩
    |succ c=>
     obtain⟨i,D,V,Z⟩:=ih (c:=c) (k:=k) (by simp [jq]at h ⊢;omega);exact⟨i+1,by omega,by simpa using V,by simp [jq]at Z ⊢;omega⟩
section
variable{ts:List (OI->Ty)}{Om:Nat->(Nat->OI)->List OE}
end
section
variable{ty:TypeId}
def Jq(Y:E.P.underlying t=some (.slice e))(I:aG E.N G x (tV (.slice none 0 0))):ck E O G ⟨dst,.call ⟨.builtin .len,#[x],#[t]⟩,ty,pos,after,g⟩ (tD (rI .i64) (0:Int)):=
 .of_pure fun a w S _ _ Q=>by
  have D:a.eval x= .slice none 0 0:=I S a Q;refine⟨.int .i64 0,?_,gm.2 rfl⟩;simp [execOp,resolve,invoke,builtin,Builtin.len_,lc Y,D,goInt]
def Js(Y:E.P.underlying t=some (.slice e))(I:aG E.N G x (tV (.slice none 0 0))):ck E O G ⟨dst,.call ⟨.builtin .cap,#[x],#[t]⟩,ty,pos,after,g⟩ (tD (rI .i64) (0:Int)):=
 .of_pure fun a w S _ _ Q=>by
  have D:a.eval x= .slice none 0 0:=I S a Q;refine⟨.int .i64 0,?_,gm.2 rfl⟩;simp [execOp,resolve,invoke,builtin,Builtin.cap_,lc Y,D,goInt]
def MO{hi:Operand}(Y:E.P.underlying t=some (.slice T))(ti:TI E.P T sz bytes agg z)(I:aG E.N G x (tV (.slice none 0 0)))(hhi:aG E.N G hi (tD (rI k) (0:Int))):
  ck E O G ⟨dst,.slice t x none (some hi) none,ty,pos,after,g⟩ (tV (.slice none 0 0)):=
 .of_pure fun a w S _ _ Q=>by
  have D:a.eval x= .slice none 0 0:=I S a Q;have h6:=gm.1 (hhi S a Q);refine⟨.slice none 0 0,?_,rfl⟩;have K:=o7 (P:=E.P) (w:=w) (k:=k) (n:=(0:Int)) (y:=0) (code:= .sliceAcap) (by omega) (by omega);simp [execOp,Instr.sliceAt,D,h6,Instr.slice,lc Y,Instr.sliceBounds,K,o7 (k:=k) (n:=(0:Int)) (y:=0) (by omega) (by omega),ti.sizeOf]
end
def yN{α:Type}(n:Int)(z:α):Option (List α):=if 0<=n/\n<=68719476736 then some (List.replicate n.toNat z)else none
def E8{n:Int}{z:α}(h:yN n z=some zs): ∃m:Nat,n=m/\m<=68719476736/\zs=List.replicate m z:=by
 unfold yN at h;split at h
 ·rename_i hc;exact⟨n.toNat,by omega,by omega,by simpa using h.symm⟩
 ·cases h
def A5{α:Type}{r:Rp α}{x:α}{z:List Value}(I: ∀S,r.rc S z x)(S:SH): ∀n:Nat,vq r S (List.replicate n z).flatten (List.replicate n x)
 |0=>rfl
 |n+1=>⟨z,_,by rw [List.replicate_succ,List.flatten_cons],I S,A5 I S n⟩
def Hk(z:List Value):(List.range z.length).map (fun i=>z[i%z.length]?.getD default)=z:=by
 apply IT;intro k;rcases mN k z.length with h|h
 ·rw [D9,List.getElem?_range h];simp [Nat.mod_eq_of_lt h,h]
 ·rw [E5 (by simpa using h),E5 h]
def qX(z:List Value)(n:Nat):(Builtin.zeroCells z.toArray n).toList=(List.replicate n z).flatten:=by
 unfold Builtin.zeroCells;simp
 induction n with
 |zero=>simp
 |succ n ih=>
  rw [List.replicate_succ,List.flatten_cons,<-ih,Nat.succ_mul,Nat.add_comm,List.range_add,CO,Hk,List.map_map];congr 1;apply E3;intro i _;simp
def EC(z:List Value)(n sz:Nat)(h:z.length=sz):(madeCells z.toArray (n*sz)).toList=(List.replicate n z).flatten:=by
 subst h;have:=qX z n;unfold Builtin.zeroCells at this;unfold madeCells;simpa using this
section
variable{ty:TypeId}
def X'(h:z.length=sz)(n:Nat):(List.replicate n z).flatten.length=n*sz:=by
 simp [h]
def Wf{x:α}{n:Int}{y y' :Operand}(ti:TI E.P T sz bytes agg z)(k_:r.sz=sz)(hz:Nat.beq z.length sz=true)(h128:Nat.ble bytes 2048=true)(Y:E.P.underlying t=some (.slice T))(I: ∀S,r.rc S z x)(hy:aG E.N G y (tD (rI k) n))(hy' :aG E.N G y' (tD (rI k') n))(h:yN n x=some zs):
  EffOK E O G ⟨some d,.makeSlice t y y',ty,pos,after,g⟩ (fun i=>fa r T (i.h 0).1 (i.h 0).2 zs::O) (fun i=>tV (ak (i.h 0).1 (i.h 0).2 zs.length)):=fun a w S hs ho Q K=>by
 subst k_;obtain⟨i,zv,hi,D,V,Z,h4⟩:=ti.get;obtain⟨m,rfl,hm,rfl⟩:=E8 h;have hyv:=gm.1 (hy S a Q);have hyv' :=gm.1 (hy' S a Q);have hz2:z.length=r.sz:=rm hz;have h128' :=rx h128;have hbytes:(i.bytes:Int)*(m:Int)<=281474976710656:=by
  have:i.bytes*m<=2048*68719476736:=Nat.mul_le_mul (by omega) hm;have h5:((i.bytes*m:Nat):Int)<=281474976710656:=by omega
  rwa [Int.natCast_mul]at h5
 have hr:=run_make (P:=E.P) w t T i zv Y hi Z k k' (m:Int) (m:Int) (by omega) (Int.le_refl _) hbytes (by omega);rw [yJ,D,h4]at hr;obtain⟨he,hs',G_⟩:=gb (w:=w) (.cells (madeCells z.toArray (m*r.sz)) T (0,0)) hs;have u_:(execOp a.eval ⟨some d,.makeSlice t y y',ty,pos,after,g⟩).run E.P w= .ok (.value (.slice (some ⟨w.heap.size,0,none⟩) m m)) (w.alloc (.cells (madeCells z.toArray (m*r.sz)) T (0,0))):=by
  simp [execOp,hyv,hyv',hr]
 refine⟨fun c h=>(by cases h),?_⟩;rw [u_];have hfl:=X' hz2 m;refine⟨_,S,oi (some w.heap.size) m,rfl,he.more fun _ K=>K.elim,hs',rR ho he (e:=fa r T (some w.heap.size) m (List.replicate m x)) ⟨(List.replicate m z).flatten,⟨_,xU w _,by simp,by simp only [maxLen];omega,by rw [size_madeCells],?_⟩,A5 I S m,fun b K=>by rw [<-qr K];exact G_⟩ (fun b K=>BD (qr K)) K,?_⟩
 ·rw [EC z m r.sz hz2,LT];exact s8 (by omega)
 ·show _=ak _ _ _;rw [LT];rfl
def NT{x:α}{n:Int}{s y:Operand}{kn:IntKind}(ti:TI E.P T sz bytes agg z)(k_:r.sz=sz)(hz:Nat.beq z.length sz=true)(h0:Nat.blt 0 sz=true)(h128:Nat.ble bytes 2048=true)(Y:E.P.underlying t=some (.slice T))(ht' :E.P.underlying t' =some (.int kn))(I: ∀S,r.rc S z x)(hs' :aG E.N G s (tV (.slice none 0 0)))(hy:aG E.N G y (tD (rI k) n))(hn:0<n)(h:yN n x=some zs):
  EffOK E O G ⟨some d,.call ⟨.builtin .append,#[s,y],#[t,t']⟩,ty,pos,after,g⟩ (fun i=>fa r T (i.h 0).1 (i.h 0).2 zs::O) (fun i=>tV (ak (i.h 0).1 (i.h 0).2 zs.length)):=fun a w S hs ho Q K=>by
 subst k_;obtain⟨i,zv,hi,D,V,Z,h4⟩:=ti.get;obtain⟨m,rfl,hm,rfl⟩:=E8 h;have hsv:a.eval s= .slice none 0 0:=hs' S a Q;have hyv:=gm.1 (hy S a Q);have hz2:z.length=r.sz:=rm hz;have h128' :=rx h128;have h0' :0<r.sz:=by simpa [xS] using h0
 have hbytes:m*i.bytes<=281474976710656:=by
  have:m*i.bytes<=68719476736*2048:=Nat.mul_le_mul hm (by omega);omega
 have hr:=Lib.run_append_nil_zeros (P:=E.P) w t t' ty T i zv k kn Y ht' hi Z m (by omega) (by omega) (by omega) hbytes;have hge:=grownCap_ge w m 0 T;have hle:=grownCap_le_maxLen w m 0 T (by simp only [maxLen];omega);generalize grownCap w m 0 T=cp at hr hge hle;obtain⟨C,hC⟩: ∃C,Builtin.zeroCells zv.cells m++Builtin.zeroCells zv.cells (cp-m)=C:=⟨_,rfl⟩;rw [hC]at hr;obtain⟨he0,hs0⟩:=AU (w:=w) hs;obtain⟨he,hs2,G_⟩:=gb (w:=w.drew) (.cells C T (0,0)) hs0;have hx2:ji sq w S (w.drew.alloc (.cells C T (0,0))) S:=he0.trans he;have u_:(execOp a.eval ⟨some d,.call ⟨.builtin .append,#[s,y],#[t,t']⟩,ty,pos,after,g⟩).run E.P w= .ok (.value (.slice (some ⟨w.heap.size,0,none⟩) m cp)) (w.drew.alloc (.cells C T (0,0))):=by
  simp [execOp,resolve,invoke,builtin,hsv,hyv,hr]
 refine⟨fun c h=>(by cases h),?_⟩;rw [u_];have hfl:=X' hz2 m;have hC1:C.toList=(List.replicate m z).flatten++(List.replicate (cp-m) z).flatten:=by
  rw [<-hC,Array.toList_append,h4,qX,qX]
 refine⟨_,S,oi (some w.heap.size) cp,rfl,hx2.more fun _ K=>K.elim,hs2,rR ho hx2 (e:=fa r T (some w.heap.size) cp (List.replicate m x)) ⟨(List.replicate m z).flatten,⟨C,xU w.drew _,by simpa using hge,hle,?_,?_⟩,A5 I S m,fun b K=>by rw [<-qr K];exact G_⟩ (fun b K=>BD (qr K)) K,?_⟩
 ·have:C.toList.length=cp*r.sz:=by
   rw [hC1,jY,hfl,X' hz2,<-uT];congr 1;omega
  simpa using this
 ·rw [hC1,LT,<-hfl,List.take_left]
 ·show _=ak _ _ _;rw [LT];rfl
def Ue{x:α}{y:Operand}(ti:TI E.P T sz bytes agg z)(k_:r.sz=sz)(hz:Nat.beq z.length sz=true)(Y:E.P.underlying t=some (.slice T))(I: ∀S,r.rc S z x)(hone:z.all (·.oneCell')=true)(hs:fz xs lo (xs.length:Int)=some ys)(hy:aG E.N G y (tV (o4 sz l cap lo.toNat ys.length)))(hzs:xs.take lo.toNat++List.replicate ys.length x=zs)(k:RG E ops hf rest (fa r T l cap zs::O) G):
  RG E ops hf (⟨none,.call ⟨.builtin .clear,#[y],#[t]⟩,ty,pos,after,none⟩::rest) (fa r T l cap xs::O) G:= .of rfl fun a w S st=>by
 subst k_;subst hzs;obtain⟨i,zv,hi,D,V,Z,h4⟩:=ti.get;have hyv:a.eval y=o4 r.sz l cap lo.toNat ys.length:=hy S a st.facts;have hz2:z.length=r.sz:=rm hz;obtain⟨lo',m,rfl,hm,h5,h6,rfl⟩:=iQ hs;have hm' :m=xs.length:=by omega
 subst hm';rw [BH]at hyv k;rw [yJ]at hyv k;by_cases hnil:xs.drop lo' =[]
 ·have hlo:xs.length<=lo' :=GI.1 hnil;rw [hnil]at hyv k;have e1:xs.take lo' ++List.replicate ([]:List α).length x=xs:=by simp [s8 hlo]
  rw [e1]at k;have u_:(execOp a.eval ⟨none,.call ⟨.builtin .clear,#[y],#[t]⟩,ty,pos,after,none⟩).run E.P w= .ok (.value (.tuple #[])) w:=by
   cases l<;>simp [execOp,resolve,invoke,builtin,Builtin.clear_,lc Y,hyv,o4]
  refine⟨fun c h=>(by cases h),?_⟩;rw [u_];exact k _ _ S st
 ·obtain⟨⟨cells,hraw,hrc,G_⟩,hbase⟩:=st.own.1;have o_:lo' <xs.length:=by
   rcases mN lo' xs.length with h|h
   ·exact h
   ·exact absurd (FX h) hnil
  cases l with
  |none=>have:=hraw.1;omega
  |some b=>
   obtain⟨cur,g1,g2,g3,g4,g5⟩:=hraw;have hno' :S b=none:=G_ b rfl;have Q_: ¬(cap=lo'):=by omega
   have hld:(xs.drop lo').length=xs.length-lo' :=by simp
   have hfl:=X' hz2 (xs.length-lo');have hones: ∀u∈(List.replicate (xs.length-lo') z).flatten,u.oneCell' =true:=by
    intro u hu;obtain⟨q,hq,hu⟩:=List.mem_flatten.1 hu;rw [(List.mem_replicate.1 hq).2]at hu;exact o0.1 hone u hu
   have hmul:xs.length*r.sz<=cur.size:=by rw [g4];exact FW _ g2
   have hfit:lo' *r.sz+(xs.length-lo')*r.sz=xs.length*r.sz:=by rw [<-uT];congr 1;omega
   have hst:=run_storeCells_at E.P b (lo' *r.sz) T (List.replicate (xs.length-lo') z).flatten 0 cur w g1 (by omega) hones;simp only [wV]at hst;have u_:(execOp a.eval ⟨none,.call ⟨.builtin .clear,#[y],#[t]⟩,ty,pos,after,none⟩).run E.P w= .ok (.value (.tuple #[])) (w.setRow b (cur.toList.take (lo' *r.sz)++(List.replicate (xs.length-lo') z).flatten++cur.toList.drop (lo' *r.sz+(List.replicate (xs.length-lo') z).flatten.length)).toArray):=by
    have e1: ∃q,xs.length-lo' =q+1:=⟨xs.length-lo' -1,by omega⟩;obtain⟨q,hq⟩:=e1;have e2:a.eval y= .slice (some ⟨b,lo' *r.sz,none⟩) (q+1) (cap-lo'):=by rw [hyv,hld,hq];simp [o4,Q_]
    rw [hq]at hst ⊢;simp [execOp,resolve,invoke,builtin,Builtin.clear_,lc Y,e2,zeroValue,typeInfo,hi,Z,h4,qX,hst]
   refine⟨fun c h=>(by cases h),?_⟩;rw [u_];have I_:=setRow_heap w b cur (cur.toList.take (lo' *r.sz)++(List.replicate (xs.length-lo') z).flatten++cur.toList.drop (lo' *r.sz+(List.replicate (xs.length-lo') z).flatten.length)).toArray T _ g1;have hl2:(xs.take lo' ++List.replicate (xs.drop lo').length x).length=xs.length:=by simp;omega
   have hsp:vq r S (cells.take (lo' *r.sz)) (xs.take lo'):=by
    have e:xs=xs.take lo' ++xs.drop lo' :=(vn _ _).symm;rw [e]at hrc;have:=(sL hrc).1
    rwa [show(xs.take lo').length=lo' from by simp;omega]at this
   have hcl:((cur.toList.take (lo' *r.sz)++(List.replicate (xs.length-lo') z).flatten++cur.toList.drop (lo' *r.sz+(List.replicate (xs.length-lo') z).flatten.length)).toArray).toList.take ((xs.take lo' ++List.replicate (xs.drop lo').length x).length*r.sz)=cells.take (lo' *r.sz)++(List.replicate (xs.length-lo') z).flatten:=by
    rw [hl2,<-g5,B5,Bq (FW _ (by omega))];have hlen1:(cur.toList.take (lo' *r.sz)++(List.replicate (xs.length-lo') z).flatten).length=xs.length*r.sz:=by
     rw [jY,hfl,Br,GH,Bq (by omega)];exact hfit
    rw [<-hlen1,List.take_left]
   obtain⟨q1,q2,q3⟩:=q8 (O:=O) st.sat (fa r T (some b) cap xs) (fa r T (some b) cap (xs.take lo' ++List.replicate (xs.drop lo').length x)) st.own (fun k=>⟨fun h=>(qr h).symm,fun h=>by rw [h];rfl⟩) (fun k=>⟨fun h=>(qr h).symm,fun h=>by rw [h];rfl⟩)
    (w' :=w.setRow b (cur.toList.take (lo' *r.sz)++(List.replicate (xs.length-lo') z).flatten++cur.toList.drop (lo' *r.sz+(List.replicate (xs.length-lo') z).flatten.length)).toArray) ⟨rfl,rfl,rfl,by simp [World.setRow],eX _⟩ (fun k hk=>setRow_other w b k _ hk)
    ⟨cells.take (lo' *r.sz)++(List.replicate (xs.length-lo') z).flatten,⟨_,I_,by rw [hl2];exact g2,g3,by simp only [IS,jY,Br,E2,GH];omega,hcl⟩,by rw [hld];exact wu hsp (A5 I S _),fun k hk=>by rw [<-qr hk];exact hno'⟩ hno'
   ·exact k _ _ S ⟨st.ext.step q1 (fun c hc=>hbase c (by rw [hc];rfl)),q2,q3,st.facts⟩
end
def sj{α:Type}(r:Rp α)(n:Nat):Rp (List α) where
 sz:=n*r.sz
 agg:=true
 rc:=fun S cs xs=>xs.length=n/\vq r S cs xs
 mono:=fun h ⟨D,V⟩=>⟨D,u3 h V⟩
 len:=fun⟨D,V⟩=>by rw [pM V,D]
 one:=fun⟨_,V⟩=>C9 V
 sc:=fun h=>by cases h
section
section
variable{ty:TypeId}
def Iw{i:Int}(Y:E.P.underlying t=some (.array n e))(ti:TI E.P e sz bytes agg z)(hm:bx (sj r n) T b xs∈O)(I:aG E.N G x (tV (an b 0)))(hi:aG E.N G ix (tD (rI k) i))(hy:dm xs i=some y):
  ck E O G ⟨dst,.indexAddr t x ix,ty,pos,after,g⟩ (tV (an b (i.toNat*sz))):=
 .of_pure fun a w S _ ho Q=>by
  have D:a.eval x=an b 0:=I S a Q;have h5:a.eval ix= .int k i:=gm.1 (hi S a Q);obtain⟨⟨_,c,_,h4,_⟩,_⟩:=ho.mem _ hm;obtain⟨h0,hy'⟩:=ou hy;have o_:i.toNat<xs.length:=(oC.1 hy').1;have hc:0<=i/\i<(n:Int):=⟨h0,by omega⟩;refine⟨_,?_,rfl⟩;simp [execOp,D,h5,an,Instr.indexAt,asIntOf,lc Y,Instr.sureAddr,hc,ti.sizeOf,kL]
end
end
def BQ{α:Type}{r:Rp α}{c:Value}{x:α}(h: ∀S,r.rc S [c] x)(S:SH): ∀n,vq r S (List.replicate n c) (List.replicate n x)
 |0=>rfl
 |n+1=>⟨[c],_,rfl,h S,BQ h S n⟩
def N4{c:Value}{x:α}(n:Nat)(h: ∀S,r.rc S [c] x): ∀S,(sj r n).rc S (List.replicate n c) (List.replicate n x):=fun S=>⟨LT,BQ h S n⟩
def aaV(n:Nat):Option Unit:=if n<=68719476736 then some ()else none
def gt0(n:Int):Option Unit:=if 0<n then some ()else none
def VI{n:Int}{u:Unit}(h:gt0 n=some u):0<n:=by
 unfold gt0 at h;split at h
 ·assumption
 ·cases h
def WG{e:Exit}(mm:Bool)(r:Rp α)(T:TypeId)(h:AT E hf e (nU mm r T none 0 []::O) G):AT E hf e O G:=fun a w S st=>h a w S (st.fresh mm r T)
def JT{x:α}(h:fz xs lo (xs.length:Int)=some ys)(hz:xs.take lo.toNat++List.replicate ys.length x=zs):zs.length=xs.length:=by
 obtain⟨l,m,rfl,hm,D,V,rfl⟩:=iQ h;have hm' :m=xs.length:=by omega
 subst hm';rw [<-hz];simp;omega
def tC(n:FuncId)(cts:List Ty):Ty where
 p:=fun S v=> ∃cap:List Value,v= .func (.func n) #[] cap.toArray/\yw S cts cap
 mono:=fun h ⟨cap,e,k⟩=>⟨cap,e,yw.mono h k⟩
section
section
variable{ty:TypeId}
def Ve{E_:FuncId}{L_:List Operand}(hcap:k5 E.N G L_ cts):ck E O G ⟨dst,.makeFunc (.func E_) #[] L_.toArray,ty,pos,after,g⟩ (tC E_ cts):=
 .of_pure fun a w S _ _ Q=>⟨.func (.func E_) #[] (L_.map a.eval).toArray,by simp [execOp,Instr.makeFunc],_,rfl,hcap.tys Q⟩
end
def TT{n:FuncId}{ty:TypeId}{fo:Operand}{xs:List Operand}(O1 Or:List OE){t:OI->Ty}{O2:OI->List OE}(hO:O=O1++Or)(hc:af E.P n=true)(hs:dj E.P n (ts++cts) O1 t O2)(Q:aG E.N G fo (tC n cts))(I:k5 E.N G xs ts)(hpost: ∀i,O2 i++Or=post i):
  EffOK E O G ⟨some d,.call ⟨.value fo,xs.toArray,ats⟩,ty,pos,after,g⟩ post t:=fun a w S C_ ho hF K=>by
 subst hO;obtain rfl:(fun i=>O2 i++Or)=post:=funext hpost;obtain⟨cap,e,hcap⟩:=Q S a hF;have hr:(execOp a.eval ⟨some d,.call ⟨.value fo,xs.toArray,ats⟩,ty,pos,after,g⟩).run E.P w= .ok (.enter n ((xs.map a.eval).toArray++cap.toArray)) w:=by
  simp [execOp,resolve,e,Deferred.ofValue,invoke,gT hc]
 refine⟨fun c h=>(by cases h),?_⟩;rw [hr];have e2:(xs.map a.eval).toArray++cap.toArray=((xs.map a.eval)++cap).toArray:=by simp
 rw [e2];exact(hs w S _ C_ ((I.tys hF).append hcap) (qp ho).1.weak).mono fun en w' ⟨i,v,S',he,hv,D,V,Z,h4⟩=>⟨_,he,v,S',i,rfl,D.more fun b ⟨f,Q,K⟩=>⟨f,uR _ Q,K⟩,V,dR.turn ho K D Z h4,hv⟩
end
def IC{α:Type}(xs:List α)(lo:Int)(n:Nat)(i:Int):Option α:=if 0<=i/\i<(n:Int)then dm xs (lo+i)else none
def Be{i:Int}(h:IC xs lo n i=some y):0<=i/\i<(n:Int)/\dm xs (lo+i)=some y:=by
 unfold IC at h;split at h
 ·rename_i hc;exact⟨hc.1,hc.2,h⟩
 ·cases h
def El(h:fz xs lo hi=some ys):0<=lo:=by
 obtain⟨l,m,rfl,_,_,_,_⟩:=iQ h;omega
section
def rh(hm:nU mm r T l cap xs∈O)(hs:fz xs lo hi=some ys)(h:(l=none->ys.length=0)/\ys.length<=maxLen->RG E ops hf rest O G):RG E ops hf rest O G:=fun a w S st=>by
 refine h ?_ a w S st;obtain⟨cells,D,_⟩:=(st.own.mem _ hm).1;obtain⟨l',m,_,_,_,h8,rfl⟩:=iQ hs;have hlen:((xs.take m).drop l').length<=xs.length:=by simp;omega
 cases l with
 |none=>have:=D.1;exact⟨fun _=>by omega,by omega⟩
 |some b=>obtain⟨cur,_,g2,g3,_⟩:=D;exact⟨fun h=>(by cases h),by omega⟩
section
variable{ty:TypeId}
def Ro{lo:Nat}(Y:E.P.underlying t=some (.slice e))(hv:l=none->n=0)(I:aG E.N G x (tV (o4 sz l cap lo n))):
  ck E O G ⟨dst,.call ⟨.builtin .len,#[x],#[t]⟩,ty,pos,after,g⟩ (tD (rI .i64) (n:Int)):=
 .of_pure fun a w S _ ho Q=>by
  have D:a.eval x=o4 sz l cap lo n:=I S a Q;obtain⟨ad,c,Z⟩: ∃ad c,o4 sz l cap lo n= .slice ad n c:=by
   cases l with
   |none=>rw [hv rfl];exact⟨none,0,rfl⟩
   |some b=>exact⟨_,_,rfl⟩
  refine⟨.int .i64 n,?_,gm.2 rfl⟩;simp [execOp,resolve,invoke,builtin,Builtin.len_,lc Y,D,Z,goInt]
def xJ{i:Int}(Y:E.P.underlying t=some (.slice e))(ti:TI E.P e sz bytes agg z)(k_:r.sz=sz)(hm:nU mm r U l cap xs∈O)(hl0:0<=lo)(I:aG E.N G x (tV (o4 sz l cap lo.toNat n)))(hi' :aG E.N G ix (tD (rI k) i))(hy:IC xs lo n i=some y):
  ck E O G ⟨dst,.indexAddr t x ix,ty,pos,after,g⟩ (tV (qv l ((lo+i).toNat*sz+0))):=
 .of_pure fun a w S _ ho Q=>by
  subst k_;have D:a.eval x=o4 r.sz l cap lo.toNat n:=I S a Q;have Z:a.eval ix= .int k i:=gm.1 (hi' S a Q);obtain⟨hi0,hin,hxi⟩:=Be hy;obtain⟨_,hx'⟩:=ou hxi;obtain⟨b,cur,rfl,_,hle,_⟩:=wv (ho.mem _ hm).1 hx';have hlt2:(lo+i).toNat<xs.length:=(oC.1 hx').1;have Q_: ¬(cap=lo.toNat):=by omega
  refine⟨_,?_,rfl⟩;have hc:0<=i/\i<(n:Int):=⟨hi0,hin⟩;have e1:(lo+i).toNat=lo.toNat+i.toNat:=by omega
  simp [execOp,D,Z,o4,Q_,Instr.indexAt,asIntOf,lc Y,hc,ti.sizeOf,kL,qv,an,e1,uT]
end
end
section
variable{ty:TypeId}{l:List Oper}
end
