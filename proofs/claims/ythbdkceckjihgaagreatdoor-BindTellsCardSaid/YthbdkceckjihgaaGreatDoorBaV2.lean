/- cH of this claim: W12, W13, W14, W16, W17, W18, W19, W20, W22, W23, W24, W25, W26, W28, W30, W31, W32. -/
import Derived.Test.YthbdkceckjihgaaGreatDoorBaV1
import Derived.RangeFuncRecord
import Derived.RangeFuncLeaves
import Derived.Laws.StructEq
import Derived.Lib.ConvBytes
import Derived.Lib.AppendZeros
import Derived.Laws.MakeOwn
import Derived.MapKept
import Derived.Scope
import Derived.ChangeKeysEq
set_option linter.all false
namespace Go.Proofs.YthbdkceckjihgaaGreatDoor
open Go

variable{B:Nat->Prop}{O:List OE}{S S' :SH}{b base:Nat}{e:Exit}{f:FuncId}{k:IntKind}{w w' :World}
def nd(h:cr base B w S O)(k:gj oE w S w' S'){e:OE}(he:e.p w' S')(hn: ∀b,e.fp b->w.heap.size<=b)(D:base<=w.heap.size:=by first|assumption|exact St.base_le (by assumption)):cr base B w' S' (e::O):=
 ⟨⟨he,fun b hb' => .inl (iZ D (hn b hb'))⟩,fun f hf b hb' hfb=>by
  have:=f.here (cr.mem h f hf).1 b hfb
  have:=hn b hb'
  omega,h.ext0 k⟩
def fL(P:Program)(f:FuncId)(ts:List Ty)(mm:Bool){α:Type}(r:Rp α)(T:TypeId)(xs:List α):Prop:=
 ∀w S vs,hY w S->sn S ts vs->Calls P f vs.toArray w fun e w' => ∃l cap S',e= .returned (M l cap xs.length)/\gj oE w S w' S' /\hY w' S' /\(gL mm r T l cap xs).holds w.heap.size oE w' S'
variable{T:TypeId}{cap:Nat}{α:Type}{l:Option Nat}{mm:Bool}{r:Rp α}{xs:List α}
def Df(h:(gL mm r T l cap xs).holds w.heap.size oE w' S')(he:gj oE w S w' S')(hs:hY w' S'):
  ∃S'',gj oE w S w' S'' /\hY w' S'' /\(V (dz r) xs).p S'' (M l cap xs.length):=by
 have st:St ⟨default,⟨0,[]⟩,oE,w,S,none⟩ [gL mm r T l cap xs] [] ⟨#[],[]⟩ w' S' :=⟨he,hs,⟨h,fun _ hf=>(by cases hf),trivial⟩,⟨rfl,rfl,fun _ _ h=>(by simp [look]at h)⟩⟩
 obtain⟨S'',H,J⟩:=st.settle
 exact⟨S'',H.ext,H.sat,J⟩
variable{P:Program}{ts:List Ty}
def fL.spec(h:fL P f ts mm r T xs):cw P f ts (V (dz r) xs):=fun w S vs hs hv=>
 (h w S vs hs hv).mono fun e w' ⟨l,cap,S',he,H,J,h3⟩=>by
  obtain⟨S'',h4,h5,h6⟩:=Df h3 H J
  exact⟨_,S'',he,h4,h5,h6⟩
def NC(E:En)(mm:Bool){α:Type}(r:Rp α)(T:TypeId)(xs:List α):Ending->World->Prop:=fun e w' => ∃l cap S',e= .returned (M l cap xs.length)/\gj E.B E.w0 E.S0 w' S' /\hY w' S' /\(gL mm r T l cap xs).holds E.w0.heap.size E.B w' S'
variable{N:Nat}{S0:SH}{c:Code}{fn:Func}{n:Nat}{w0:World}
def fL.of(hf:P.funcs[f]? =some fn)(D:fn.body=some c)(hN:fn.ntmps=N)(hn:Nat.ble ts.length N=true)(h: ∀w0 S0,CG ⟨P,⟨N,[]⟩,oE,w0,S0,none⟩ (bodyPost P fn (NC ⟨P,⟨N,[]⟩,oE,w0,S0,none⟩ mm r T xs)) c [] (sB 0 ts)):fL P f ts mm r T xs:=by
 subst hN
 intro w S vs hs hv
 exact p6.1 (callsIn_of_wp (F:=fw none) (n:=0) hf D trivial (h w S _ w S ⟨gj.refl _ _ _,hs,trivial,s9 hv _ (mP hn)⟩))
variable{E:En}{G:io}{ay:Exit->Act->World->Prop}{a:Act}{after:Array Edge}{agg:Bool}{ats:Array TypeId}{bytes ac:Nat}{ops:Array Oper}{pos:String}{γ:Type}{rest:List Oper}{sz:Nat}{t:TypeId}{u:Rp γ}{ys:List α}{z:List Value}
section
def jp{k:Nat}(hr:fn.results= #[.tmp k])(hk:look G k=some (tV (M l cap n)))(hn:n=xs.length:=by rfl):
  AT ⟨P,⟨N,[]⟩,B,w0,S0,none⟩ (bodyPost P fn (NC ⟨P,⟨N,[]⟩,B,w0,S0,none⟩ mm r T xs)) .ret (gL mm r T l cap xs::O) G:=fun a w S st=>by
 subst hn
 have hv:a.tmps.getD k undef=M l cap xs.length:=st.facts.at_ k _ hk
 exact⟨st.facts.defers,_,mW P fn k hr _ _,l,cap,S,by rw [hv],st.ext,st.sat,st.own.1⟩
section
variable{ty:TypeId}
def GA{xs:List Operand}{u:Nat->Option Nat->Ty}(hc:af E.P f=true)(hs:fL E.P f ts mm r T ys)(A:fM E.N G xs ts)(hd:Nat.blt ac E.N.n=true)(hu: ∀l cap w0 S,(gL mm r T l cap ys).p w0 S->(u cap l).p S (M l cap ys.length))(k: ∀l cap,RG E ops ay rest (gL mm r T l cap ys::O) ((ac,u cap l)::G)):
  RG E ops ay (⟨some ac,.call ⟨.value (.func f),xs.toArray,ats⟩,ty,pos,after,none⟩::rest) O G:= .of rfl fun a w S st=>by
 have hr:(execOp a.eval ⟨some ac,.call ⟨.value (.func f),xs.toArray,ats⟩,ty,pos,after,none⟩).run E.P w= .ok (.enter f (xs.map a.eval).toArray) w:=by
  simp [execOp,resolve,Act.eval,Deferred.ofValue,invoke,fA hc]
 refine⟨fun c h=>(by cases h),?_⟩
 rw [hr]
 refine(hs w S _ st.sat (A.tys st.facts)).mono fun e w' ⟨l,cap,S',he,H,J,h3⟩=>⟨_,he,?_⟩;refine k l cap _ _ S' ⟨st.ext.step0 H,J,nd st.own H h3.1 (fun b D=>(h3.2 b D).resolve_right id) st.base_le,(st.facts.mono H.keep).put hd (hu l cap w' S' h3.1)⟩
def Is{xs:List Operand}(hc:af E.P f=true)(hs:fL E.P f ts false r T ys)(A:fM E.N G xs ts)(hd:Nat.blt ac E.N.n=true)(k: ∀l cap,RG E ops ay rest (eg r T l cap ys::O) ((ac,tV (M l cap ys.length))::G)):
  RG E ops ay (⟨some ac,.call ⟨.value (.func f),xs.toArray,ats⟩,ty,pos,after,none⟩::rest) O G:=GA (u:=fun cap l=>tV (M l cap ys.length)) hc hs A hd (fun _ _ _ _ _=>rfl) k
def fk{xs:List Operand}{parts:List (Nat×Operand)}(Y:E.P.underlying t=some (.slice T))(ti:TI E.P T sz bytes agg z)(hsz:r.sz=sz)(h0:Nat.blt 0 sz=true)(hp:parts=sD 0 xs)(hn:n=ys.length)(D:Nat.ble (n*sz) 16777216=true)(A:fM E.N G xs (ys.map (V r)))(hd:Nat.blt ac E.N.n=true)(k: ∀l cap,RG E ops ay rest (eg r T l cap ys::O) ((ac,tV (M l cap ys.length))::G)):
  RG E ops ay (⟨some ac,.buildSlice t n parts.toArray,ty,pos,after,none⟩::rest) O G:= .of rfl fun a w S st=>by
 obtain⟨cs,hc,hr⟩:=qL Y ti hsz hn D (A.tys st.facts) w
 subst hsz
 subst hp
 have hb' :=mP D
 have h0' :0<r.sz:=by simpa [qx] using h0
 have hnle:n<=n*r.sz:=Nat.le_mul_of_pos_right n h0'
 have hcl:=gX hc
 obtain⟨he,hs',hno⟩:=gr (w:=w) (.cells cs.toArray T (0,0)) st.sat
 have hrun:(execOp a.eval ⟨some ac,.buildSlice t n (sD 0 xs).toArray,ty,pos,after,none⟩).run E.P w= .ok (.value (.slice (some ⟨w.heap.size,0,none⟩) n n)) (w.alloc (.cells cs.toArray T (0,0))):=by
  simp only [execOp,mi,hr,m6,xd]
 refine⟨fun c h=>(by cases h),?_⟩
 rw [hrun]
 refine k (some w.heap.size) n _ _ S ⟨st.ext.step0 he,hs',nd st.own he ⟨cs,⟨cs.toArray,yE w _,by omega,by simp only [maxLen];omega,by simp [hcl,hn],by simp [<-hcl]⟩,hc,fun b D=>by rw [<-kP D];exact hno⟩ (fun b D=>vT (kP D)) st.base_le,st.facts.put hd ?_⟩
 ·show _=M _ _ _
  rw [<-hn];rfl
end
end

def aj(b off:Nat):Value:= .pointer (some ⟨b,off,none⟩)
def bx{α:Type}(r:Rp α)(T:TypeId)(b:Nat)(x:α):OE where
 fp:=fun k=>k=b
 p:=fun w S=>S b=none/\ ∃c,w.heap[b]? =some (.cells c T (0,0))/\r.rc S c.toList x
 here:=by
  intro w S h k hk
  subst hk
  obtain⟨H,c,J,_⟩:=h
  exact(sL.1 J).1
 kept:=by
  intro C w w' S S' h k hC
  obtain⟨H,c,J,h3⟩:=h
  have hlt:=(sL.1 J).1
  exact⟨by rw [k.old b hlt (hC b rfl)];exact H,c,by rw [k.heap b hlt (hC b rfl)];exact J,r.mono k.keep h3⟩
def rV:Rp Value where
 sz:=1
 agg:=false
 rc:=fun _ cs v=>cs=[v]/\v.oneCell' =true
 mono:=fun _ h=>h
 len:=fun h=>by rw [h.1];rfl
 one:=fun h c hc=>by rw [h.1]at hc;simp at hc;subst hc;exact h.2
 sc:=fun _=>rfl
def tR{u:Value}{v:Value}:(V rV u).p S v↔v=u/\u.oneCell' =true:=by
 constructor
 ·rintro⟨cs,rfl,H,J⟩;subst H;exact⟨rfl,J⟩
 ·rintro⟨rfl,h⟩;exact⟨[v],rfl,rfl,h⟩
def dk{α β:Type}(r:Rp α)(off:Nat)(q:Rp β)(set:α->β->α):Prop:= ∀S cs x ds y,r.rc S cs x->q.rc S ds y->r.rc S (cs.take off++ds++cs.drop (off+q.sz)) (set x y)
variable{U:TypeId}{dst:Option Tmp}{g:Option (Nat×Bool)}{β:Type}{get:α->β}{i:Nat}{o:Oper}{off:Nat}{q:Rp β}{set:α->β->α}{x:Operand}{y:α}
section
def St.settleB{k:Nat}{x:α}(h:St E (bx r T b x::O) G a w S)(hk:look G k=some (tV (aj b 0))): ∃S',St E O ((k,bb r x)::G) a w S' :=by
 obtain⟨⟨hn,cur,h3,h4⟩,_⟩:=h.own.1
 obtain⟨h8,hle,_,_⟩:=sY h rfl h3 (pg _) hn
 have hv:a.tmps.getD k undef=aj b 0:=h.facts.at_ k _ hk
 refine⟨_,h8.cons ⟨b,0,cur,T,(0,0),hv,by simp [SH.set],?_⟩⟩
 have hl:cur.size=r.sz:=by have:=r.len h4;simpa using this
 have:=r.mono hle h4
 rw [r0,Ae (by simp [hl])];exact this
def aP{x:α}(k:Nat)(hk:look G k=some (tV (aj b 0)))(h:RG E ops ay rest O ((k,bb r x)::G)):RG E ops ay rest (bx r T b x::O) G:=
 fun a w _ st=>let⟨S',st'⟩:=st.settleB hk;h a w S' st'
def cQ{x:α}(k:Nat)(hk:look G k=some (tV (aj b 0)))(h:AT E ay e O ((k,bb r x)::G)):AT E ay e (bx r T b x::O) G:=
 fun a w _ st=>let⟨S',st'⟩:=st.settleB hk;h a w S' st'
section
variable{ty:TypeId}
def aT{x:α}(ti:TI E.P T sz bytes agg z)(A: ∀S,r.rc S z x)(hd:Nat.blt ac E.N.n=true)(k: ∀b,RG E ops ay rest (bx r T b x::O) ((ac,tV (aj b 0))::G)):RG E ops ay (⟨some ac,.alloc T,ty,pos,after,none⟩::rest) O G:= .of rfl fun a w S st=>by
 obtain⟨zv,hzr,hzc⟩:=ti.zero w
 obtain⟨he,hs',hno⟩:=gr (w:=w) (.cells z.toArray T (0,0)) st.sat
 have hrun:(execOp a.eval ⟨some ac,.alloc T,ty,pos,after,none⟩).run E.P w= .ok (.value (aj w.heap.size 0)) (w.alloc (.cells z.toArray T (0,0))):=by
  simp [execOp,Instr.alloc,hzr,newVar,newRow,hzc,aj]
 refine⟨fun c h=>(by cases h),?_⟩
 rw [hrun]
 exact k w.heap.size _ _ S ⟨st.ext.step0 he,hs',nd st.own he ⟨hno,z.toArray,yE w _,by simpa using A S⟩ (fun b D=>vT D.symm) st.base_le,st.facts.put hd rfl⟩
def w6{v:α}(A:ax E.N G x (V r v))(hd:Nat.blt ac E.N.n=true)(k: ∀b,RG E ops ay rest (bx r T b v::O) ((ac,tV (aj b 0))::G)):RG E ops ay (⟨some ac,.box T x,ty,pos,after,none⟩::rest) O G:= .of rfl fun a w S st=>by
 obtain⟨cs,hv,hc⟩:=A S a st.facts
 obtain⟨he,hs',hno⟩:=gr (w:=w) (.cells cs.toArray T (0,0)) st.sat
 have hrun:(execOp a.eval ⟨some ac,.box T x,ty,pos,after,none⟩).run E.P w= .ok (.value (aj w.heap.size 0)) (w.alloc (.cells cs.toArray T (0,0))):=by
  simp [execOp,Instr.box,newVar,newRow,hv,pc hc,aj]
 refine⟨fun c h=>(by cases h),?_⟩
 rw [hrun]
 exact k w.heap.size _ _ S ⟨st.ext.step0 he,hs',nd st.own he ⟨hno,cs.toArray,yE w _,by simpa using hc⟩ (fun b D=>vT D.symm) st.base_le,st.facts.put hd rfl⟩
def iy(hs:hY w S)(f f' :OE)(h:cr base B w S (f::O))(hf: ∀k,f.fp k↔k=b)(hf' : ∀k,f'.fp k↔k=b)(K:w'.os=w.os/\w'.tape=w.tape/\w'.output=w.output/\w'.heap.size=w.heap.size/\w.drawn<=w'.drawn)(ho: ∀k,k≠b->w'.heap[k]? =w.heap[k]?)(hp:f'.p w' S)(hno:S b=none):gj (fun k=>k=b) w S w' S/\hY w' S/\cr base B w' S (f' ::O):=by
 have hext:gj (fun k=>k=b) w S w' S:=⟨K.1,K.2.1,K.2.2.1,K.2.2.2.2,by omega,fun k _ hk=>ho k hk,SH.le_refl _,fun _ _ _=>rfl⟩
 refine⟨hext,hs.same fun k o hk=>?_,⟨hp,fun k hk=>h.1.2 k ((hf k).2 ((hf' k).1 hk))⟩,fun g hgm k hk=>h.2.1 g hgm k ((hf k).2 ((hf' k).1 hk)),h.2.2.ext hext fun g hgm k hk hkb=>h.2.1 g hgm k ((hf k).2 hkb) hk⟩
 have hne:k≠b:=fun e=>by subst e;rw [hno]at hk;cases hk
 exact ho k hne
def fj{q:Rp α}(ti:TI P U sz bytes agg z)(hsz:q.sz=sz){ds:List Value}(hy:q.rc S ds y){cur:Array Value}(K:w.heap[b]? =some (.cells cur T (0,0)))(hfit:off+q.sz<=cur.size):
  ∃w',(storeVar U ⟨b,off,none⟩ (q.val ds)).run P w= .ok () w' /\w'.os=w.os/\w'.tape=w.tape/\w'.output=w.output/\(w'.heap.size=w.heap.size/\w.drawn<=w'.drawn)/\w'.heap[b]? =some (.cells (cur.toList.take off++ds++cur.toList.drop (off+q.sz)).toArray T (0,0))/\ ∀k,k≠b->w'.heap[k]? =w.heap[k]? :=by
 have hl:=q.len hy
 have hst:=run_storeCells_at P b off T ds 0 cur w K (by omega) (q.one hy)
 simp only [Nat.add_zero]at hst
 refine⟨w.setRow b (cur.toList.take off++ds++cur.toList.drop (off+ds.length)).toArray,?_,rfl,rfl,rfl,⟨?_,gP _⟩,?_,fun k hk=>setRow_other w b k _ hk⟩
 ·generalize (cur.toList.take off++ds++cur.toList.drop (off+ds.length)).toArray=X at hst ⊢
  simp only [storeVar,mi,ti.sizeOf,m6,pc hy,CL,hl,hsz]
  simp only [ne_eq,not_true_eq_false,nu]
  simpa using hst
 ·simp [World.setRow]
 ·rw [setRow_heap w b cur _ T _ K,<-hl]
def jb{x:α}{y:β}{p v:Operand}(ti:TI E.P U sz bytes agg z)(hsz:q.sz=sz)(hset:dk r off q set)(hoff:Nat.ble (off+q.sz) r.sz=true)(hp:ax E.N G p (tV (aj b off)))(hv:ax E.N G v (V q y))(k:RG E ops ay rest (bx r T b (set x y)::O) G):RG E ops ay (⟨none,.store U p v,ty,pos,after,none⟩::rest) (bx r T b x::O) G:= .of rfl fun a w S st=>by
 have H:a.eval p=aj b off:=hp S a st.facts
 obtain⟨ds,J,h3⟩:=hv S a st.facts
 obtain⟨⟨hno,cur,h5,h6⟩,_⟩:=st.own.1
 have hl:=r.len h6
 have hoff' :=mP hoff
 obtain⟨w',hr,e1,e2,e3,e4,e5,e6⟩:=fj ti hsz h3 h5 (off:=off) (by simp at hl;omega)
 have hrun:(execOp a.eval ⟨none,.store U p v,ty,pos,after,none⟩).run E.P w= .ok .skip w' :=by
  simp [execOp,H,J,Instr.storeAt,aj,Instr.sureAddr,hr]
 refine⟨fun c h=>(by cases h),?_⟩
 rw [hrun]
 obtain⟨g1,g2,g3⟩:=iy (O:=O) st.sat (bx r T b x) (bx r T b (set x y)) st.own (fun _=>ot) (fun _=>ot) ⟨e1,e2,e3,e4.1,e4.2⟩ e6 ⟨hno,_,e5,by simpa using hset S _ _ _ _ h6 h3⟩ hno
 exact k _ _ S ⟨st.ext.step g1 (fun c hc=>st.own.1.2 c hc),g2,g3,st.facts⟩
def al:dk r 0 r (fun _ y=>y):=fun S cs x ds y H J=>by
 have hl:=r.len H
 simpa [<-hl] using J
end
section
variable{ty:TypeId}
def yR{o:Nat}{p:Operand}(hf:aX E.P T i=some (off,sz))(h0:Nat.beq sz 0=false)(hp:ax E.N G p (tV (aj b o))):bE E O G ⟨dst,.fieldAddr T p i,ty,pos,after,g⟩ (tV (aj b (o+off))):=
 .of_pure fun a w S _ _ hF=>by
  have H:a.eval p=aj b o:=hp S a hF
  obtain⟨fs,f,e1,e2,e3,e4⟩:=vf hf
  have h0' :sz≠0:=fun e=>by subst e;simp at h0
  refine⟨aj b (o+off),?_,rfl⟩
  simp [execOp,H,aj,Instr.fieldAt,mK e1,e2,Instr.sureAddr,fieldPlace,e4,h0',e3,fc]
def bm{x:α}{p:Operand}(ti:TI E.P U sz bytes agg z)(hsz:q.sz=sz)(hag:q.agg=agg)(hget:fW r off q get)(hm:bx r T b x∈O)(hp:ax E.N G p (tV (aj b off))):
  bE E O G ⟨dst,.load U p,ty,pos,after,g⟩ (V q (get x)):=
 .of_pure fun a w S _ ho hf=>by
  have H:a.eval p=aj b off:=hp S a hf
  obtain⟨⟨_,cur,h5,h6⟩,_⟩:=ho.mem _ hm
  have h7:=hget S _ _ h6
  refine⟨_,?_,_,rfl,h7⟩
  simp [execOp,H,aj,Instr.loadAt,Instr.sureAddr,gy ti h5 hsz hag h7]
def bZ:fW r 0 r (fun x=>x):=fun S cs x h=>by
 have hl:=r.len h
 simpa [<-hl] using h
end
end

def bR{p:Rp α}:dk (br p q) 0 p (fun x y=>(y,x.2)):=fun S cs x ds y h k=>by
 obtain⟨a,b,e,H,J⟩:=h
 have hl:=p.len H
 refine⟨ds,b,?_,k,J⟩
 rw [e,<-hl];simp
variable{s:Rp γ}
def am{p:Rp α}{off' :Nat}{u:β->γ->β}(h:dk q off s u)(ho:off' =p.sz+off):dk (br p q) off' s (fun x y=>(x.1,u x.2 y)):=fun S cs x ds y A hy=>by
 obtain⟨a,b,e,H,J⟩:=A
 have hl:=p.len H
 refine⟨a,b.take off++ds++b.drop (off+s.sz),?_,H,h S b x.2 ds y J hy⟩
 rw [e,ho,<-hl,List.take_length_add_append,show a.length+off+s.sz=a.length+(off+s.sz)from by omega,List.drop_length_add_append]
 simp
def bf{p:Rp α}{q:Rp γ}{u:α->γ->α}{f:β->α}{set:β->γ->β}(h:dk p off q u)(hf: ∀x y,f (set x y)=u (f x) y):dk (f7 p f) off q set:=fun S cs x ds y A hy=>by
 show p.rc S _ (f (set x y))
 rw [hf]
 exact h S cs (f x) ds y A hy
def ee(P:Program)(T:TypeId):Option (List (Nat×Nat)):=
 match P.underlying T with
 |some (.struct fs)=>fs.toList.mapM fun f=>(P.info? f.type).map fun q=>(f.offset,q.size)
 |_=>none
def xC{P:Program}: ∀(fs:List Field) (ps:List (Nat×Nat)) (w:World),fs.mapM (fun f=>(P.info? f.type).map fun q=>(f.offset,q.size))=some ps->
  (fs.mapM (fun f=>do pure (f.offset,<-sizeOf f.type):Field->Sem (Nat×Nat))).run P w= .ok ps w
 |[],ps,w,h=>by
  simp at h;subst h
  simp
 |f::fs,ps,w,h=>by
  simp only [List.mapM_cons]at h ⊢
  cases hq:P.info? f.type with
  |none=>simp [hq]at h
  |some q=>
   cases hr:fs.mapM (fun f=>(P.info? f.type).map fun q=>(f.offset,q.size))with
   |none=>simp [hq,hr]at h
   |some qs=>
    simp [hq,hr]at h
    subst h
    have ih:=xC fs qs w hr
    simp [sizeOf,typeInfo,hq]at ih ⊢
    simp [ih]
section
variable{ty:TypeId}
def BP(E:En)(G:io){α:Type}(r:Rp α)(ps:List (Nat×Nat)):α->List (Nat×Operand)->α->Prop
 |x,[],y=>x=y
 |x,(i,o)::rest,y=> ∃(β:Type) (q:Rp β) (set:α->β->α) (off:Nat) (v:β),ps[i]? =some (off,q.sz)/\dk r off q set/\Nat.ble (off+q.sz) r.sz=true/\ax E.N G o (V q v)/\BP E G r ps (set x v) rest y
def xZ{α:Type}{r:Rp α}{ps:List (Nat×Nat)}{S:SH}{a:Act}(hF:cH E.N S a G): ∀(parts:List (Nat×Operand)) (x y:α) (cs:List Value),BP E G r ps x parts y->r.rc S cs x->
  ∃ds,r.rc S ds y/\Instr.fill (ps.toArray[·]?) cs.toArray (parts.map fun p=>(p.1,a.eval p.2))=some ds.toArray
 |[],x,y,cs,h,A=>by
  have e:x=y:=h
  subst e
  exact⟨cs,A,rfl⟩
 |(i,o)::rest,x,y,cs,⟨β,q,set,off,v,H,J,h3,h4,h5⟩,A=>by
  obtain⟨c,hv,hc⟩:=h4 S a hF
  have hl:=q.len hc
  have hlr:=r.len A
  have h3' :=mP h3
  have hcells:(a.eval o).cells=c.toArray:=by rw [hv];exact pc hc
  obtain⟨ds,h6,h7⟩:=xZ hF rest _ y _ h5 (J S cs x c v A hc)
  refine⟨ds,h6,?_⟩
  have hps:ps.toArray[i]? =some (off,q.sz):=by simpa using H
  have hs:(a.eval o).cells.size=q.sz:=by rw [hcells];simpa using hl
  have h8:=tU (a.eval o) off (cs.take off) ((cs.drop off).take q.sz) (cs.drop (off+q.sz)) (by rw [hs];simp;omega) (by simp;omega)
  have e1:cs.take off++(cs.drop off).take q.sz++cs.drop (off+q.sz)=cs:=by
   rw [sa,<-tA,o8,o8]
  rw [e1]at h8
  simp only [tz,Instr.fill,hps]
  rw [cS (by simp [hs,hlr];omega),h8,hcells]
  simpa using h7
def bV{x:α}{parts:List (Nat×Operand)}{ps:List (Nat×Nat)}(ti:TI E.P T sz bytes agg z)(hp:ee E.P T=some ps)(hz: ∀S,r.rc S z x)(D:BP E G r ps x parts y)(ha:r.agg=true:=by rfl):
  bE E O G ⟨dst,.build T parts.toArray,ty,pos,after,g⟩ (V r y):=
 .of_pure fun a w S _ _ hF=>by
  obtain⟨zv,hzr,hzc⟩:=ti.zero w
  obtain⟨ds,H,J⟩:=xZ hF parts x y z D (hz S)
  unfold ee at hp
  split at hp
  ·rename_i fs hu
   have hpl:=xC fs.toList ps w hp
   have hpl2:(fs.mapM (fun f=>do pure (f.offset,<-sizeOf f.type):Field->Sem (Nat×Nat))).run E.P w= .ok ps.toArray w:=by
    have hfs:fs=fs.toList.toArray:=by simp
    generalize fs.toList=l at hfs hpl
    subst hfs
    rw [List.mapM_toArray,Sem.run_map,hpl]
    rfl
   refine⟨.agg ds.toArray,?_,ds,(m9 ha ds).symm,H⟩
   simp only [execOp,Instr.build,mi,hzr,m6,mK hu,hpl2,hzc]
   have hm:(parts.toArray.map fun(i,x)=>(i,a.eval x)).toList=parts.map fun p=>(p.1,a.eval p.2):=by simp
   rw [hm,J]
   simp
  ·cases hp
end
section
def oe{k:Nat}{x:α}(hr:fn.results= #[.cell k T])(ti:TI P T sz bytes agg z)(hsz:r.sz=sz)(hag:r.agg=agg)(hk:look G k=some (bb r x)):
  AT ⟨P,⟨N,[]⟩,B,w0,S0,none⟩ (bodyPost P fn (Cl ⟨P,⟨N,[]⟩,B,w0,S0,none⟩ (V r x))) .ret O G:=fun a w S st=>by
 obtain⟨b,off,c,U,fr,H,J,h3⟩:=st.facts.at_ k _ hk
 obtain⟨c',h4,h5⟩:=st.sat.part J (r.len h3)
 rw [<-h5]at h3
 refine⟨st.facts.defers,r.val ((c'.toList.drop off).take r.sz),?_,_,S,rfl,st.ext,st.sat,_,rfl,h3⟩
 have hl:=gy ti h4 hsz hag h3
 have h1' :a.tmps[k]?.getD undef=Value.pointer (some ⟨b,off,none⟩):=by simpa [Bq] using H
 simp [results,hr,h1',asAddr,hl]
end

def jh(L:List Oper):Nat->Nat->Nat->Bool
 |0,_,_=>false
 |n+1,i,j=>match L[i]? with
  |some o=>o.after.toList.any fun e=>Region.binds .any e&&(Nat.beq e.on j||jh L n e.on j)
  |none=>false
def p4(L:List Oper)(m:Nat):Bool:=(List.range m).all fun j=>jh L L.length m j
def su(L:List Oper)(n k:Nat):Bool:=(List.range k).all fun m=>p4 L (n+m)&&(match L[n+m]? with|some o=>di (n+m) o&&o.guard.isNone|none=>false)
variable{L:List Oper}{done:Array Bool}{hi j:Int}
def ej{L:List Oper}{done:Array Bool}(down: ∀j o,L[j]? =some o->done.getD j false=true-> ∀e∈o.after,Region.binds .any e=true->done.getD e.on false=true):
  ∀(n i j:Nat),(∀o,L[i]? =some o-> ∀e∈o.after,Region.binds .any e=true->done.getD e.on false=true)->jh L n i j=true->done.getD j false=true
 |0,_,_,_,h=>by cases h
 |n+1,i,j,hi,h=>by
  unfold jh at h
  cases ho:L[i]? with
  |none=>rw [ho]at h;cases h
  |some o=>
   rw [ho]at h
   obtain⟨e,he0,D⟩:=w9.1 h
   have he:e∈o.after:=by simpa using he0
   rw [lG,xf]at D
   have hd:=hi o ho e he D.1
   rcases D.2 with H|H
   ·rw [<-kR H];exact hd
   ·exact ej down n e.on j (fun p hp=>down e.on p hp hd) H
def DJ.stepT{l:List Oper}(h:DJ E O G l ts done a w S){t:Ty}{v:Value}(hi:l[i]? =some o)(hd:o.dst=some ac)(hdN:ac<E.N.n)(hs2: ∀j p,l[j]? =some p->done.getD j false=true->p.dst=some ac->i=j)(hwait: ∀e∈o.after,Region.binds .any e=true->done.getD e.on false=true)(Y:ts[i]? =some t)(hun:done.getD i true=false)(hext:gj oE w S w' S')(hsat:hY w' S')(hv:t.p S' v):DJ E O G l ts (done.setIfInBounds i true) (a.put o.dst v) w' S' :=by
 have hda:ac<a.tmps.size:=by rw [h.size];exact hdN
 have hlt:i<done.size:=by rw [h.dsz];exact(mO.1 hi).1
 have hset: ∀j,(done.setIfInBounds i true).getD j false=true->j=i\/done.getD j false=true:=fun j hj=>by
  by_cases hij:i=j
  ·exact .inl hij.symm
  ·rw [wt false hij]at hj;exact .inr hj
 have hseti:(done.setIfInBounds i true).getD i false=true:=by simp [hlt]
 have hun' :done.getD i false=false:=by simp [hlt]at hun ⊢;exact hun
 refine⟨h.ext.step0 hext,hsat,h.own.ext0 hext,?_,?_,by simp [h.dsz],fun j p hj hdone e he D=>?_,fun k u hk hno=>?_,fun j p d' u hj hdone hd' hu=>?_⟩
 ·rw [hd];simp [Act.put,h.size]
 ·rw [hd];exact h.defers
 ·rcases hset j hdone with rfl|hj'
  ·rw [hi]at hj
   have:o=p:=by simpa using hj
   subst this
   exact rZ (hwait e he D)
  ·exact rZ (h.down j p hj hj' e he D)
 ·have hne:ac≠k:=fun e=>hno i o hi hseti (by rw [hd,e])
  rw [hd,oA hda,cS hne]
  exact u.mono hext.keep (h.old k u hk fun j p hj hdone=>hno j p hj (rZ hdone))
 ·rw [hd,oA hda]
  rcases hset j hdone with rfl|hj'
  ·rw [hi]at hj
   have:o=p:=by simpa using hj
   subst this
   rw [hd]at hd'
   have:ac=d' :=by simpa using hd'
   subst this
   rw [fE rfl]
   rw [Y]at hu
   have:t=u:=by simpa using hu
   subst this
   exact hv
  ·have hne:ac≠d' :=fun e=>by
    subst e
    have:=hs2 j p hj hj' hd'
    subst this
    rw [hj']at hun';cases hun'
   rw [cS hne]
   exact u.mono hext.keep (h.new j p d' u hj hj' hd' hu)
def jW(h:i<done.size):done.getD i true=done.getD i false:=by simp [h]
def ow(h:hM done=0)(hi:i<done.size):done.getD i false=true:=by
 unfold hM at h
 rw [List.countP_eq_zero]at h
 have J:done[i]∈done.toList:=by simp
 have:=h _ J
 rw [<-jW hi]
 simpa [hi] using this
variable{m:Nat}
def sN{r:Option Nat}(hc: ∀m o,n<=m->L[m]? =some o->p4 L m=true)(hedge: ∀m o,L[m]? =some o->di m o=true):
  ∀(rest:List Oper) (m:Nat) (done:Array Bool) (fuel:Nat) (a:Act) (w:World),n<=m->L.drop m=rest->done.size=L.length->(∀j,j<L.length->(done.getD j false=true↔j<m))->hM done=fuel->
   wpListIn (fw r) 0 P L.toArray ay rest a w->wpAnyIn (fw r) 0 P .any L.toArray ay fuel done a w:=by
 intro rest
 induction rest with
 |nil=>
  intro m done fuel a w hnm hdrop hsz hdone hu h
  have hlen:L.length<=m:=Eh.1 hdrop
  have hr:Region.ready .any L.toArray done=[]:=by
   cases hr:Region.ready .any L.toArray done with
   |nil=>rfl
   |cons i r=>
    have hm:i∈Region.ready .any L.toArray done:=by rw [hr];exact oh ..
    obtain⟨hun,o,ho,_⟩:=sH.1 hm
    have hi:i<L.length:=by simpa using (sL.1 ho).1
    have:=(hdone i hi).2 (by omega)
    rw [jW (by omega)]at hun
    rw [hun]at this;cases this
  cases fuel with
  |zero=>exact⟨hr,h⟩
  |succ f=>exact⟨fun _=>h,fun i hi=>by rw [hr]at hi;cases hi⟩
 |cons o rest ih=>
  intro m done fuel a w hnm hdrop hsz hdone hu h
  have hm:m<L.length:=by
   rcases jq m L.length with h' |h'
   ·exact h'
   ·rw [Eh.2 h']at hdrop;cases hdrop
  have hLm:L[m]? =some o:=by
   have:=sd (xs:=L) (i:=m) (j:=0)
   rw [hdrop]at this
   simpa using this.symm
  have hmu:done.getD m true=false:=by
   have hnot: ¬(done.getD m false=true):=fun J=>by have:=(hdone m hm).1 J;omega
   rw [jW (by omega)]
   exact uT _▸hnot
  have honly: ∀i∈Region.ready .any L.toArray done,i=m:=by
   intro i hi
   obtain⟨hun,p,hp,hwait⟩:=sH.1 hi
   have hp' :L[i]? =some p:=by simpa using hp
   have hil:i<L.length:=(mO.1 hp').1
   have hid: ¬i<m:=fun hlt=>by
    have J:=(hdone i hil).2 hlt
    rw [jW (by omega)]at hun
    rw [hun]at J;cases J
   rcases jq m i with hlt|hge
   ·exfalso
    have hcov:=hc i p (by omega) hp'
    unfold p4 at hcov
    have hre:=kU.1 hcov m (by simpa using hlt)
    have:done.getD m false=true:=by
     refine ej (L:=L) (done:=done) (fun j q hj hjd e he D=>?_) _ i m (fun q hq e he D=>?_) hre
     ·have hjl:j<L.length:=(mO.1 hj).1
      have hjm:=(hdone j hjl).1 hjd
      have:=hedge j q hj
      unfold di at this
      have:=kU.1 this e (by simpa using he)
      simp only [D,sI,qt,qx]at this
      exact(hdone e.on (by omega)).2 (by omega)
     ·have:q=p:=by rw [hp']at hq;simpa using hq.symm
      subst this
      exact hwait e he D
    have:=(hdone m hm).1 this
    omega
   ·omega
  have hready:m∈Region.ready .any L.toArray done:=by
   rw [sH]
   refine⟨hmu,o,by simpa using hLm,fun e he D=>?_⟩
   have:=hedge m o hLm
   unfold di at this
   have:=kU.1 this e (by simpa using he)
   simp only [D,sI,qt,qx]at this
   exact(hdone e.on (by omega)).2 this
  cases fuel with
  |zero=>
   have:=ow hu (i:=m) (by omega)
   have:=(hdone m hm).1 this
   omega
  |succ fuel=>
   refine⟨fun hr=>(by rw [hr]at hready;cases hready),fun i hi=>?_⟩
   have:=honly i hi
   subst this
   have hnext:=fun a w=>ih (i+1) (done.setIfInBounds i true) fuel a w (by omega) (by rw [<-tA,hdrop];rfl) (by simpa using hsz) (fun j hj=>by
    by_cases hij:i=j
    ·subst hij;have:i<done.size:=by omega
     simp [this]
    ·rw [wt false hij,hdone j hj];omega) (by have:=lI hmu;omega)
   unfold wpOpIn
   have hLm' :L.toArray[i]? =some o:=by simpa using hLm
   rw [hLm']
   show if _ then _ else _
   unfold wpListIn at h
   by_cases hw:Region.wanted o (yielded L.toArray a.tmps)=true
   ·rw [fE hw]at h ⊢;exact Oper.wpIn_mono (fun a w hk=>hnext a w hk) h
   ·rw [cS hw]at h ⊢;exact⟨h.1,hnext _ _ h.2⟩
def Bz{l t:List Oper}(hsl:pC E.N.n [] l=true)(hlen:ts.length=l.length)(hd:DR E O G (l++t) ts 0 l)(Y:su (l++t) l.length t.length=true)(hQ: ∀a w S,St E O (Dm l ts G) a w S->wpListIn (fw E.r) 0 E.P (l++t).toArray ay t a w):
  ∀(fuel:Nat) (done:Array Bool) (a:Act) (w:World) (S:SH),hM done=fuel->(∀j,l.length<=j->done.getD j false=false)->DJ E O G (l++t) ts done a w S->wpAnyIn (fw E.r) 0 E.P .any (l++t).toArray ay fuel done a w:=by
 have hL1: ∀i o,i<l.length->(l++t)[i]? =some o->l[i]? =some o:=fun i o hi h=>by rwa [yI hi]at h
 have hL2: ∀i o,l[i]? =some o->(l++t)[i]? =some o:=fun i o h=>by rw [yI (mO.1 h).1];exact h
 have htail: ∀m o,l.length<=m->(l++t)[m]? =some o->p4 (l++t) m=true/\di m o=true:=fun m o hm ho=>by
  have hml:m<(l++t).length:=(mO.1 ho).1
  rw [j6]at hml
  unfold su at Y
  have:=kU.1 Y (m-l.length) (by simp;omega)
  rw [show l.length+(m-l.length)=m from by omega,ho]at this
  simp only [lG]at this
  exact⟨this.1,this.2.1⟩
 have hedge: ∀i o,(l++t)[i]? =some o->di i o=true:=fun i o hi=>by
  rcases jq i l.length with h|h
  ·obtain⟨_,_,_,_,_,h,_⟩:=DR.get l 0 hd i o (hL1 i o h hi)
   simpa using h
  ·exact(htail i o h hi).2
 obtain⟨hs1,hs2⟩:=qG l [] hsl
 have fin: ∀fuel done a w S,hM done=fuel->(∀j,l.length<=j->done.getD j false=false)->DJ E O G (l++t) ts done a w S->(∀i,i<l.length->done.getD i false=true)->wpAnyIn (fw E.r) 0 E.P .any (l++t).toArray ay fuel done a w:=by
  intro fuel done a w S hu hfree h hall
  refine sN (n:=l.length) (fun m o hm ho=>(htail m o hm ho).1) hedge t l.length done fuel a w (gP _) (by simp) h.dsz (fun j hj=>⟨fun hjd=>?_,fun hlt=>hall j hlt⟩) hu
   (hQ a w S ⟨h.ext,h.sat,h.own,h.size,h.defers,fun j u hj=>?_⟩)
  ·rcases jq j l.length with h' |h'
   ·exact h'
   ·rw [hfree j h']at hjd;cases hjd
  ·rcases zu l ts j u (fun o ho e=>by obtain⟨ac,hd,_⟩:=hs1 o ho;rw [hd]at e;cases e) hlen hj with⟨i,o,H,J,h3⟩|⟨H,J⟩
   ·exact h.new i o j u (hL2 i o H) (hall i (mO.1 H).1) J h3
   ·refine h.old j u H fun i o ho hdn=>?_
    rcases jq i l.length with h' |h'
    ·exact J o (qu (hL1 i o h' ho))
    ·rw [hfree i h']at hdn;cases hdn
 have lower: ∀done a w S i,(∀j,l.length<=j->done.getD j false=false)->DJ E O G (l++t) ts done a w S->i∈Region.ready .any (l++t).toArray done->l.length<=i-> ∀j,j<l.length->done.getD j false=true:=by
  intro done a w S i hfree h hi hge j hj
  obtain⟨hun,p,hp,hwait⟩:=sH.1 hi
  have hp' :(l++t)[i]? =some p:=by simpa using hp
  have hcov:=(htail i p hge hp').1
  unfold p4 at hcov
  have hre:=kU.1 hcov j (by simp;omega)
  exact ej h.down _ i j (fun q hq e he D=>by
   have:q=p:=by rw [hp']at hq;simpa using hq.symm
   subst this
   exact hwait e he D) hre
 intro fuel
 induction fuel with
 |zero=>
  intro done a w S hu hfree h
  exact fin 0 done a w S hu hfree h fun i hi=>ow hu (by rw [h.dsz,j6];omega)
 |succ fuel ih=>
  intro done a w S hu hfree h
  by_cases hall: ∀i,i<l.length->done.getD i false=true
  ·exact fin _ done a w S hu hfree h hall
  have hready0: ∀m i,i<m->i<l.length->Region.ready .any (l++t).toArray done=[]->done.getD i false=true:=by
   intro m
   induction m with
   |zero=>intro i h;omega
   |succ m ihm=>
    intro i him hil hr
    have his:i<done.size:=by rw [h.dsz,j6];omega
    by_cases hdn:done.getD i true=true
    ·rw [<-jW his];exact hdn
    ·exfalso
     obtain⟨o,ho⟩: ∃o,(l++t)[i]? =some o:=⟨l[i],hL2 i _ (nw hil)⟩
     have hmem:i∈Region.ready .any (l++t).toArray done:=by
      rw [sH]
      refine⟨by simpa using hdn,o,by simpa using ho,fun e he D=>?_⟩
      have:=hedge i o ho
      unfold di at this
      have:=kU.1 this e (by simpa using he)
      simp only [D,sI,qt,qx]at this
      exact ihm e.on (by omega) (by omega) hr
     rw [hr]at hmem;cases hmem
  refine⟨fun hr=>absurd (fun i hi=>hready0 (i+1) i (by omega) hi hr) hall,fun i hi=>?_⟩
  have hil:i<l.length:=by
   rcases jq i l.length with h' |h'
   ·exact h'
   ·exact absurd (lower done a w S i hfree h hi h') hall
  obtain⟨hun,o,ho,hwait⟩:=sH.1 hi
  have ho' :(l++t)[i]? =some o:=by simpa using ho
  have hol:=hL1 i o hil ho'
  obtain⟨needs,u,H,J,h3,_,h5⟩:=DR.get l 0 hd i o hol
  rw [qr]at H h3
  have hF:=h.need ho' hun hwait J h3
  have h6:=h5 a w S h.sat h.own hF
  have hu' :hM (done.setIfInBounds i true)=fuel:=by have:=lI hun;omega
  obtain⟨ac,hdd,hdN,_⟩:=hs1 o (qu hol)
  have huq: ∀j p,(l++t)[j]? =some p->done.getD j false=true->p.dst=some ac->i=j:=fun j p hj hjd hpd=>by
   rcases jq j l.length with h' |h'
   ·exact hs2 i j o p hol (hL1 j p h' hj) (by rw [hdd,hpd])
   ·rw [hfree j h']at hjd;cases hjd
  have hfree' : ∀j,l.length<=j->(done.setIfInBounds i true).getD j false=false:=fun j hj=>by
   rw [wt false (by omega)];exact hfree j hj
  unfold wpOpIn
  rw [ho]
  show if _ then _ else _
  by_cases hw:Region.wanted o (yielded (l++t).toArray a.tmps)=true
  ·rw [fE hw]at h6 ⊢
   refine gT (fun a' w' ⟨v,S',ha,he,hs,hv⟩=>?_) h6
   subst ha
   exact ih _ _ _ S' hu' hfree' (h.stepT ho' hdd hdN huq hwait H hun he hs hv)
  ·rw [cS hw]at h6 ⊢
   exact⟨fun _ _=>trivial,ih _ _ _ S hu' hfree' (h.stepT ho' hdd hdN huq hwait H hun (gj.refl _ _ _) h.sat h6)⟩
def Iy{id:Nat}{l t:List Oper}(hL:L=l++t)(hm:E.P.follows .mixedOrders=true)(hsl:pC E.N.n [] l=true)(hlen:ts.length=l.length)(Y:su L l.length t.length=true)(hd:DR E O G L ts 0 l)(k:RG E L.toArray ay t O (Dm l ts G)):CG E ay (.region id L.toArray true) O G:=fun a w S st=>by
 subst hL
 refine wpIn_region_any hm ?_
 obtain⟨he,hs⟩:=uS (w:=w) st.sat
 refine Bz hsl hlen hd Y (fun a w S st=>k a w S st) _ _ _ _ S ?_ (fun j _=>?_)
  ⟨st.ext.step0 he,hs,st.own.ext0 he,st.facts.size,st.facts.defers,by simp,fun j o hj hdone=>?_,fun k t hk _=>st.facts.at_ k t hk,fun j o ac t hj hdone=>?_⟩
 ·unfold hM;rw [Eo,Ej];simp
 ·simp [sK];split<;>rfl
 ·simp [sK]at hdone
  split at hdone<;>simp at hdone
 ·simp [sK]at hdone
  split at hdone<;>simp at hdone

abbrev It(α:Type):=(σ:Type)->(α->σ->Option (Bool×σ))->σ->Option σ

def cr.weak: ∀{O:List OE},cr base B w S O->cr 0 oE w S O
 |[],_=>trivial
 |_::_,⟨H,J,h3⟩=>⟨⟨H.1,fun _ _=> .inl (iM _)⟩,J,cr.weak h3⟩
def rR: ∀{O:List OE},cr 0 oE w S O->(∀f∈O,∀k,f.fp k->base<=k\/B k)->cr base B w S O
 |[],_,_=>trivial
 |_::_,⟨H,J,h3⟩,h=>⟨⟨H.1,h _ (oh ..)⟩,J,rR h3 fun f hf=>h f (oj _ hf)⟩
section
variable{ty:TypeId}
end
def EU:List OE->List OE->Prop
 |[],_=>True
 |f::O,g::O' =>(∀k,f.fp k->g.fp k)/\EU O O'
 |_::_,[]=>False
def EU.mem: ∀{O O' :List OE},EU O O' -> ∀k,(∃f∈O,f.fp k)-> ∃f∈O',f.fp k
 |f::O,g::O',⟨H,J⟩,k,⟨q,hq,hk⟩=>by
  rcases mJ.1 hq with e|e
  ·subst e;exact⟨g,oh ..,H k hk⟩
  ·obtain⟨q',h3,h4⟩:=EU.mem J k ⟨q,e,hk⟩
   exact⟨q',oj _ h3,h4⟩

variable{O1:List OE}{ι:Type}{O2:ι->List OE}
def kM: ∀{O1 O2:List OE},cr base B w S (O1++O2)->cr base B w S O1/\cr base B w S O2/\ ∀e∈O1,∀f∈O2,e.apart f
 |[],_,h=>⟨trivial,h,fun _ h=>(by cases h)⟩
 |e::O1,O2,⟨H,J,h3⟩=>by
  obtain⟨k1,k2,k3⟩:=kM h3
  refine⟨⟨H,fun f hf=>J f (CO _ hf),k1⟩,k2,fun g K f hf=>?_⟩
  rcases mJ.1 K with rfl|K
  ·exact J f (List.mem_append_right _ hf)
  ·exact k3 g K f hf
def cr.cons{e:OE}(H:e.holds base B w S)(J: ∀f∈O,e.apart f)(h3:cr base B w S O):cr base B w S (e::O):=⟨H,J,h3⟩

section
section
variable{ty:TypeId}
end
end


section
variable{R:Ending->World->Prop}{ds:List Deferred}
end
def rT(t:Ty):Rp Unit where
 sz:=1
 agg:=false
 rc:=fun S cs _=> ∃v,cs=[v]/\v.oneCell' =true/\t.p S v
 mono:=fun h ⟨v,e,k,l⟩=>⟨v,e,k,t.mono h l⟩
 len:=fun⟨_,e,_⟩=>by rw [e];rfl
 one:=fun⟨v,e,k,_⟩ c hc=>by rw [e]at hc;simp at hc;subst hc;exact k
 sc:=fun _=>rfl
def OO{t:Ty}{u:Unit}{v:Value}:(V (rT t) u).p S v↔v.oneCell' =true/\t.p S v:=by
 constructor
 ·rintro⟨cs,rfl,w,rfl,H,J⟩;exact⟨H,J⟩
 ·rintro⟨H,J⟩;exact⟨[v],rfl,v,rfl,H,J⟩
variable{k' :IntKind}{lo:Int}
section
variable{ty:TypeId}
def bE.imp{t u:Ty}(h:bE E O G o t)(k: ∀S v,t.p S v->u.p S v):bE E O G o u:=fun a w S hs ho hf=>
 jT (fun _ _ ⟨v,S',H,J,h3,h4⟩=>⟨v,S',H,J,h3,k S' v h4⟩) (h a w S hs ho hf)
def EJ{args:α->List Ty}{res:β->Ty}{f:α->Option β}(A:ax E.N G x (eV E.P args res f)):bE E O G ⟨dst,.box T x,ty,pos,after,g⟩ (bb (rT (eV E.P args res f)) ()):=
 Dt (fun S a hf=>OO.2 ⟨by obtain⟨_,_,e,_⟩:=A S a hf;rw [e];rfl,A S a hf⟩)
def my{t:Ty}{p:Operand}(ti:TI E.P U 1 bytes false z)(hp:ax E.N G p (bb (rT t) ())):bE E O G ⟨dst,.load U p,ty,pos,after,g⟩ t:=
 (fS (r:=rT t) (x:=()) ti rfl rfl hp).imp fun _ _ h=>(OO.1 h).2

def Lq:rV.rc S [.slice none 0 0] (M none 0 0):=⟨rfl,rfl⟩
def IE{N:Fr}(h:ax N G x (tV (M l cap n))):ax N G x (V rV (M l cap n)):=fun S a hf=>tR.2 ⟨h S a hf,by cases l<;>rfl⟩
def ph{p:Operand}(ti:TI E.P U 1 bytes false z)(hm:bx rV T b (M l cap n)∈O)(hp:ax E.N G p (tV (aj b 0))):
  bE E O G ⟨dst,.load U p,ty,pos,after,g⟩ (tV (M l cap n)):=(bm (q:=rV) (get:=fun x=>x) ti rfl rfl bZ hm hp).imp fun _ _ h=>(tR.1 h).1

def cB{α:Type}(xs:List α)(lo hi:Int):Option (List α):=if 0<=lo/\lo<=hi/\hi<=(xs.length:Int)then some ((xs.take hi.toNat).drop lo.toNat)else none
def ea(h:cB xs lo hi=some ys): ∃l m:Nat,lo=l/\hi=m/\l<=m/\m<=xs.length/\ys=(xs.take m).drop l:=by
 unfold cB at h
 split at h
 ·rename_i hc
  exact⟨lo.toNat,hi.toNat,by omega,by omega,by omega,by omega,by simpa using h.symm⟩
 ·cases h
def sU{a:Option Addr}{l:Nat}(h:zb r S a xs)(hl:l<=m)(hm:m<=xs.length)(hc:xs.length<=cap):
  zb r S (if cap=l then a else a.map (·.add (l*r.sz))) ((xs.take m).drop l):=by
 by_cases hlm:l=m
 ·left;subst hlm;simp
 right
 rcases h with h|⟨b,off,c,T,fr,e1,e2,e3⟩
 ·subst h;simp at hm;omega
 subst e1
 have hne: ¬(cap=l):=by omega
 refine⟨b,off+l*r.sz,c,T,fr,?_,e2,?_⟩
 ·rw [cS hne];simp [Addr.add]
 have hlen:((xs.take m).drop l).length=m-l:=by simp;omega
 have e4:xs=(xs.take m).take l++((xs.take m).drop l++xs.drop m):=by
  rw [<-sa,o8,o8]
 have H:((xs.take m).take l).length=l:=by simp;omega
 rw [e4]at e3
 have J:=(kI e3).2
 have h3:=(kI J).1
 rw [H]at h3
 rw [hlen]at h3 ⊢
 rw [<-e4]at h3
 rw [z8,w8,tA]at h3
 have hmin:min ((m-l)*r.sz) (xs.length*r.sz-l*r.sz)=(m-l)*r.sz:=by
  rw [<-Nat.sub_mul];exact tB (sJ _ (by omega))
 rwa [hmin]at h3
def kY{n:Int}{y:Nat}{code:BoundsCode}(h0:0<=n)(H:n<=y):(Instr.sliceBound (.int k n) y code).run P w= .ok n.toNat w:=by
 simp [Instr.sliceBound,asIntOf,h0,H]
def iS{hi:Operand}(Y:E.P.underlying t=some (.slice T))(ti:TI E.P T sz bytes agg z)(hsz:r.sz=sz)(A:ax E.N G x (V (dz r) xs))(hhi:ax E.N G hi (V (rI k') j))(h:cB xs 0 j=some ys):bE E O G ⟨dst,.slice t x none (some hi) none,ty,pos,after,g⟩ (V (dz r) ys):=
 .of_pure fun a w S _ _ hf=>by
  subst hsz
  obtain⟨ad,cap,H,J,h3,h4⟩:=ik.1 (A S a hf)
  have h6:=dK.1 (hhi S a hf)
  obtain⟨l,m,hl,rfl,h7,h8,rfl⟩:=ea h
  have hl0:l=0:=by omega
  subst hl0
  have hlen:((xs.take m).drop 0).length=m-0:=by simp;omega
  refine⟨.slice (if cap=0 then ad else ad.map (·.add (0*r.sz))) (m-0) (cap-0),?_,ik.2 ⟨_,cap-0,by rw [hlen],by omega,by omega,sU h4 h7 h8 J⟩⟩
  simp [execOp,Instr.sliceAt,H,h6,Instr.slice,mK Y,Instr.sliceBounds,kY (k:=k') (n:=(m:Int)) (y:=cap) (by omega) (by omega),ti.sizeOf]
def Do{lo:Operand}{i:Int}(Y:E.P.underlying t=some (.slice T))(ti:TI E.P T sz bytes agg z)(hsz:r.sz=sz)(A:ax E.N G x (V (dz r) xs))(hlo:ax E.N G lo (V (rI k) i))(h:cB xs i (xs.length:Int)=some ys):bE E O G ⟨dst,.slice t x (some lo) none none,ty,pos,after,g⟩ (V (dz r) ys):=
 .of_pure fun a w S _ _ hf=>by
  subst hsz
  obtain⟨ad,cap,H,J,h3,h4⟩:=ik.1 (A S a hf)
  have h5:=dK.1 (hlo S a hf)
  obtain⟨l,m,rfl,hm,h7,h8,rfl⟩:=ea h
  have hm' :m=xs.length:=by omega
  subst hm'
  have hlen:((xs.take xs.length).drop l).length=xs.length-l:=by simp
  refine⟨.slice (if cap=l then ad else ad.map (·.add (l*r.sz))) (xs.length-l) (cap-l),?_,ik.2 ⟨_,cap-l,by rw [hlen],by omega,by omega,sU h4 h7 h8 J⟩⟩
  simp [execOp,Instr.sliceAt,H,h5,Instr.slice,mK Y,Instr.sliceBounds,kY (k:=k) (n:=(l:Int)) (y:=xs.length) (by omega) (by omega),ti.sizeOf]
end
def rl{id:Nat}(m:Nat)(hm:E.P.follows .mixedOrders=true)(hsl:pC E.N.n [] (L.take m)=true)(hlen:ts.length=(L.take m).length)(Y:su L (L.take m).length (L.drop m).length=true)(hd:DR E O G L ts 0 (L.take m))(k:RG E L.toArray ay (L.drop m) O (Dm (L.take m) ts G)):CG E ay (.region id L.toArray true) O G:=Iy (o8 m L).symm hm hsl hlen Y hd k

def ii(P:Program){α:Type} [DecidableEq α](t:TypeId)(r:Rp α)(n:Nat):Prop:=
 ∀(S:SH) (cs ds:List Value) (x y:α) (ac:Nat) (w:World),r.rc S cs x->r.rc S ds y->(Op.equalIn (ac+n) t (r.val cs) (r.val ds)).run P w= .ok (decide (x=y)) w
def oN(h:P.underlying t=some (.int k')):ii P t (rI k) (n+1):=fun S cs ds x y ac w A hy=>by
 have H:cs=[.int k x]:=A
 have J:ds=[.int k y]:=hy
 subst H J
 have:(Op.equalIn (ac+n+1) t (.int k x) (.int k y)).run P w= .ok (x==y) w:=by simp [Op.equalIn,mK h]
 have e:(x==y)=decide (x=y):=by by_cases h:x=y<;>simp [h]
 rw [e]at this
 exact this
def Bd(h:P.underlying t=some .string):ii P t rS (n+1):=fun S cs ds x y ac w A hy=>by
 have H:cs=[.string ⟨x.toArray⟩]:=A
 have J:ds=[.string ⟨y.toArray⟩]:=hy
 subst H J
 have:=run_equalIn_string (P:=P) w (ac+n) t ⟨x.toArray⟩ ⟨y.toArray⟩ h
 simp only [Rp.val,rS,List.headD_cons,sb,nu]
 rw [show ac+(n+1)=ac+n+1 from rfl,this]
 simp only [ByteArray.toList_eq]
 by_cases e:x=y<;>simp [e]
abbrev Fd:=TypeId×Nat×Bool
def DD(f:Field):Fd:=(f.type,f.offset,f.name== "_")
def Gi(ac:Nat)(xs ys:Array Value):List Fd->Sem Bool
 |[]=>pure true
 |f::fs=>
  if f.2.2=false then do
   let a<-part f.1 xs f.2.1
   let b<-part f.1 ys f.2.1
   let r<-Op.equalIn ac f.1 a b
   if(!r)=true then pure false else Gi ac xs ys fs
  else Gi ac xs ys fs
def Cj(ac:Nat)(xs ys:Array Value): ∀fs:List Field,Op.eqFields ac xs ys fs=Gi ac xs ys (fs.map DD)
 |[]=>rfl
 |f::fs=>by
  unfold Op.eqFields Gi
  rw [Cj ac xs ys fs]
  by_cases h:f.name= "_"
  ·have e:((DD f).2.2=false)=False:=by simp [DD,h]
   simp only [tz,e,nu]
   rw [cS (by simpa using h)]
  ·have e:((DD f).2.2=false)=True:=by simp [DD,h]
   simp only [tz,e,qw]
   rw [fE (by simpa using h)]
   rfl
def zZ(P:Program){α:Type}(r:Rp α)(n:Nat)(fs:List Fd)(c:α->α->Bool):Prop:=
 ∀(S:SH) (cs ds:List Value) (x y:α) (ac:Nat) (w:World),r.rc S cs x->r.rc S ds y->(Gi (ac+n) cs.toArray ds.toArray fs).run P w= .ok (c x y) w
def zZ.nil:zZ P r n [] (fun _ _=>true):=fun _ _ _ _ _ _ _ _ _=>rfl
def nb(ti:TI P t sz bytes agg z)(hsz:q.sz=sz)(hag:q.agg=agg)(hf:fW r off q get){cs:List Value}{x:α}(A:r.rc S cs x)(w:World):
  (part t cs.toArray off).run P w= .ok (q.val ((cs.drop off).take q.sz)) w:=by
 have h:=hf S cs x A
 have hl:=q.len h
 subst hsz hag
 unfold part
 by_cases ha:q.agg=true
 ·have e1:=ti.isAgg w
  simp only [mi,e1,ha,m6,qw,ti.sizeOf,xd]
  unfold Rp.val
  rw [fE ha]
  congr 2
  apply Array.ext'
  simp
 ·rw [uT]at ha
  have e1:=ti.isAgg w
  have hs1:=q.sc ha
  simp only [mi,e1,ha,m6,sb,nu]
  rw [hs1]at hl ⊢
  obtain⟨v,hv⟩:=List.length_eq_one_iff.1 hl
  have hc:cs[off]? =some v:=by
   have:((cs.drop off).take 1)[0]? =some v:=by rw [hv];rfl
   rw [uV (by omega),sd]at this
   simpa using this
  unfold Rp.val
  rw [hv,ha]
  simp [hc]
def zZ.cons [DecidableEq β]{t:Nat}{fs:List Fd}{c:α->α->Bool}(ti:TI P t sz bytes agg z)(hsz:q.sz=sz)(hag:q.agg=agg)(hf:fW r off q get)(he:ii P t q n)(hr:zZ P r n fs c):
  zZ P r n ((t,off,false)::fs) (fun x y=>decide (get x=get y)&&c x y):=fun S cs ds x y ac w A hy=>by
 have H:=nb ti hsz hag hf A w
 have J:=nb ti hsz hag hf hy w
 have h3:=he S _ _ _ _ ac w (hf S cs x A) (hf S ds y hy)
 unfold Gi
 simp only [qw,mi,H,J,h3,m6]
 by_cases e:get x=get y
 ·simp only [e,decide_true,sI,sb,nu,Bool.true_and]
  exact hr S cs ds x y ac w A hy
 ·simp [e]
def td [DecidableEq α]{t:Nat}{fs:List Fd}{c:α->α->Bool}(Y:(P.underlying t).map (fun ac=>match ac with| .struct l=>(true,l.toList.map DD)|_=>(false,[]))=some (true,fs))(hp:P.stoodInHeld t=false)(ha:r.agg=true)(hr:zZ P r n fs c)(hc: ∀x y,c x y=decide (x=y)):ii P t r (n+1):=fun S cs ds x y ac w A hy=>by
 obtain⟨l,H,J⟩: ∃l,P.underlying t=some (.struct l)/\l.toList.map DD=fs:=by
  cases hu:P.underlying t with
  |none=>rw [hu]at Y;cases Y
  |some ac=>
   rw [hu]at Y
   cases ac<;>simp at Y
   exact⟨_,rfl,Y⟩
 have hfo:P.fieldsOf t=l:=by unfold Program.fieldsOf;rw [H]
 have:=run_equalIn_struct (P:=P) w (ac+n) t cs.toArray ds.toArray (by rw [hfo];exact H) hp
 rw [m9 ha,m9 ha,show ac+(n+1)=ac+n+1 from rfl,this,hfo,Cj,J,hr S cs ds x y ac w A hy,hc]
def gG [DecidableEq α](h:ii P t r n)(m:Nat):ii P t r (m+n):=fun S cs ds x y ac w A hy=>by
 have:=h S cs ds x y (ac+m) w A hy
 rwa [Nat.add_assoc]at this
def GD.of [DecidableEq α](K:P.eqGuardType P.depth t=false)(h:ii P t r 20):GD P t r:=⟨K,fun S cs ds x y ac w A hy=>h S cs ds x y ac w A hy⟩

def Fc{l:List α}{e:α}(h:xs.drop i=e::l):decide ((i:Int)<(xs.length:Int))=true:=by
 have:i<xs.length:=by
  rcases jq i xs.length with h' |h'
  ·exact h'
  ·rw [List.drop_eq_nil_of_le h']at h;cases h
 simp;omega
def H6(h:xs.drop i=[]):decide ((i:Int)<(xs.length:Int))=false:=by
 have:=Eh.1 h
 simp;omega
def cW{l:List α}{e:α}(h:xs.drop i=e::l):xs.drop (i+1)=l:=by
 rw [<-tA,h];rfl
def dv{l:List α}{e:α}(h:xs.drop i=e::l):gI xs (i:Int)=some e:=by
 rw [la]
 have:=sd (xs:=xs) (i:=i) (j:=0)
 rw [h]at this
 simpa using this.symm
def H5{l:List α}{e:α}(h:xs.drop i=e::l)(hN:xs.length<=maxLen):i<9223372036854775807:=by
 have:=of_decide_eq_true (Fc h)
 simp only [maxLen]at hN
 omega
def Hr{k:Nat}(h:N-i=k+1):decide ((i:Int)<(N:Int))=true:=by simp;omega
def Hs(h:N-i=0):decide ((i:Int)<(N:Int))=false:=by simp;omega
def F5{k:Nat}(h:N-i=k+1):N-(i+1)=k:=by omega
def F6{k:Nat}(h:N-i=k+1)(hN:N<=9223372036854775807):i<9223372036854775807:=by omega
def M5(h:n<=maxLen):n<=9223372036854775807:=by simp only [maxLen]at h;omega
variable{ix:Operand}{zs:List α}
section
section
variable{ty:TypeId}
def pF{one:Operand}{xt yt:TypeId}(hi:i<9223372036854775807)(A:ax E.N G x (V (rI .i64) (i:Int)))(H:ax E.N G one (V (rI .i64) 1)):
  bE E O G ⟨dst,.binOp .add xt x one yt,ty,pos,after,g⟩ (V (rI .i64) ((i+1:Nat):Int)):=by
 have e:IntKind.i64.wrap ((i:Int)+1)=((i+1:Nat):Int):=by
  rw [yG];omega
 have:=iA (E:=E) (O:=O) (dst:=dst) (ty:=ty) (pos:=pos) (after:=after) (g:=g) (xt:=xt) (yt:=yt) A H
 rwa [e]at this
end
def iY(hm:gL mm r T l cap xs∈O)(h:xs.length<=maxLen->CG E ay c O G):CG E ay c O G:=fun a w S st=>by
 refine h ?_ a w S st
 obtain⟨cells,H,_⟩:=(st.own.mem _ hm).1
 cases l with
 |none=>have:=H.1;omega
 |some b=>obtain⟨cur,_,g2,g3,_⟩:=H;exact iZ g2 g3
def St.dataAt{k:Nat}(h:St E O G a w S)(hk:look G k=some (tO r l cap xs)):St E O ((k,V (dz r) xs)::G) a w S:=h.cons (h.facts.at_ k _ hk).2
def rW(k:Nat)(hk:look G k=some (tO r l cap xs))(h:CG E ay c O ((k,V (dz r) xs)::G)):CG E ay c O G:=fun a w S st=>h a w S (st.dataAt hk)
def je(k:Nat)(hk:look G k=some (tO r l cap xs))(h:AT E ay e O ((k,V (dz r) xs)::G)):AT E ay e O G:=fun a w S st=>h a w S (st.dataAt hk)
def cv(l:Option Nat)(off:Nat):Value:=
 match l with
 |none=> .pointer none
 |some b=>aj b off
def k8(h:sm mm r T l cap xs w S){e:α}(hi:xs[i]? =some e):
  ∃b cur,l=some b/\w.heap[b]? =some (.cells cur T (0,0))/\xs.length<=cap/\cur.size=cap*r.sz/\r.rc S ((cur.toList.drop (i*r.sz)).take r.sz) e:=by
 obtain⟨cells,H,J,_⟩:=h
 have hlt:=(mO.1 hi).1
 cases l with
 |none=>have:=H.1;omega
 |some b=>
  obtain⟨cur,g1,g2,g3,g4,g5⟩:=H
  refine⟨b,cur,rfl,g1,g2,g4,?_⟩
  have h3:=ug J hi
  rw [<-g5,z8,w8]at h3
  have h4:i*r.sz+r.sz<=xs.length*r.sz:=by
   rw [<-Nat.succ_mul];exact sJ _ hlt
  rwa [tB (by omega)]at h3
def fK{i:Int}{e:α}(h:gI xs i=some e):0<=i/\xs[i.toNat]? =some e:=by
 unfold gI at h
 split at h
 ·exact⟨by assumption,h⟩
 ·cases h
section
variable{ty:TypeId}
def bK{e:TypeId}{i:Int}(Y:E.P.underlying t=some (.slice e))(ti:TI E.P e sz bytes agg z)(hm:gL mm r U l cap xs∈O)(A:ax E.N G x (tV (M l cap n)))(hi:ax E.N G ix (V (rI k) i))(hy:gI xs i=some y)(hn:n=xs.length:=by rfl):
  bE E O G ⟨dst,.indexAddr t x ix,ty,pos,after,g⟩ (tV (cv l (i.toNat*sz+0))):=
 .of_pure fun a w S _ ho hf=>by
  subst hn
  have H:a.eval x=M l cap xs.length:=A S a hf
  have h3:a.eval ix= .int k i:=dK.1 (hi S a hf)
  obtain⟨h0,hy'⟩:=fK hy
  obtain⟨b,cur,rfl,_⟩:=k8 (ho.mem _ hm).1 hy'
  have hlt:i.toNat<xs.length:=(mO.1 hy').1
  refine⟨_,?_,rfl⟩
  have hc:0<=i/\i<(xs.length:Int):=⟨h0,by omega⟩
  simp [execOp,H,h3,M,Instr.indexAt,asIntOf,mK Y,hc,ti.sizeOf,fc,cv,aj]
def cK{foff:Nat}{i:Int}{p:Operand}(ti:TI E.P T sz bytes agg z)(hsz:q.sz=sz)(hag:q.agg=agg)(hget:fW r foff q get)(hoff:Nat.ble (foff+q.sz) r.sz=true)(hm:gL mm r U l cap xs∈O)(hy:gI xs i=some y)(hp:ax E.N G p (tV (cv l (i.toNat*r.sz+foff)))):bE E O G ⟨dst,.load T p,ty,pos,after,g⟩ (V q (get y)):=
 .of_pure fun a w S _ ho hf=>by
  have H:a.eval p=cv l (i.toNat*r.sz+foff):=hp S a hf
  obtain⟨h0,hy'⟩:=fK hy
  obtain⟨b,cur,rfl,D,_,_,h6⟩:=k8 (ho.mem _ hm).1 hy'
  have hoff' :=mP hoff
  have h7:=hget S _ _ h6
  rw [z8,w8,tA,tB (by omega)]at h7
  refine⟨_,?_,_,rfl,h7⟩
  simp [execOp,H,cv,aj,Instr.loadAt,Instr.sureAddr,gy ti D hsz hag h7]
def yQ{o:Nat}{p:Operand}(hf:aX E.P T i=some (off,sz))(h0:Nat.beq sz 0=false)(hm:gL mm r U l cap xs∈O)(hy:gI xs j=some y)(hp:ax E.N G p (tV (cv l o))):
  bE E O G ⟨dst,.fieldAddr T p i,ty,pos,after,g⟩ (tV (cv l (o+off))):=
 .of_pure fun a w S _ ho hF=>by
  have H:a.eval p=cv l o:=hp S a hF
  obtain⟨_,hy'⟩:=fK hy
  obtain⟨b,cur,rfl,_⟩:=k8 (ho.mem _ hm).1 hy'
  obtain⟨fs,f,e1,e2,e3,e4⟩:=vf hf
  have h0' :sz≠0:=fun e=>by subst e;simp at h0
  refine⟨_,?_,rfl⟩
  simp [execOp,H,cv,aj,Instr.fieldAt,mK e1,e2,Instr.sureAddr,fieldPlace,e4,h0',e3,fc]
end
def ud{α:Type}{r:Rp α}{S:SH}{y:α}{c:List Value}(hc:r.rc S c y): ∀{xs:List α} {i:Nat} {cs:List Value},mL r S cs xs->i<xs.length->mL r S (cs.take (i*r.sz)++c++cs.drop (i*r.sz+r.sz)) (xs.set i y)
 |[],_,_,_,h=>by simp at h
 |x::xs,0,cs,⟨a,b,e,H,J⟩,_=>by
  have hl:=r.len H
  refine⟨c,b,?_,hc,J⟩
  rw [e,<-hl];simp
 |x::xs,i+1,cs,⟨a,b,e,H,J⟩,h=>by
  have hl:=r.len H
  have ih:=ud hc J (i:=i) (by simpa using h)
  refine⟨a,_,?_,H,ih⟩
  have e1:(i+1)*r.sz=a.length+i*r.sz:=by rw [hl,rY];omega
  rw [e,e1,List.take_length_add_append,Nat.add_assoc,List.drop_length_add_append]
  simp
def lZ{foff:Nat}{v:β}{i:Int}{p:Operand}{ty:TypeId}(ti:TI E.P T sz bytes agg z)(hsz:q.sz=sz)(hset:dk r foff q set)(hoff:Nat.ble (foff+q.sz) r.sz=true)(hy:gI xs i=some y)(hz:xs.set i.toNat (set y v)=zs)(hp:ax E.N G p (tV (cv l (i.toNat*r.sz+foff))))(A:ax E.N G x (V q v))(k:RG E ops ay rest (eg r U l cap zs::O) G):
  RG E ops ay (⟨none,.store T p x,ty,pos,after,none⟩::rest) (eg r U l cap xs::O) G:= .of rfl fun a w S st=>by
 subst hz
 have H:a.eval p=cv l (i.toNat*r.sz+foff):=hp S a st.facts
 obtain⟨ds,J,h3⟩:=A S a st.facts
 obtain⟨h0,hy'⟩:=fK hy
 have hlt:i.toNat<xs.length:=(mO.1 hy').1
 obtain⟨cells,hraw,hrc,hno⟩:=st.own.1.1
 obtain⟨b,cur,rfl,D,hle,hcs,h6⟩:=k8 st.own.1.1 hy'
 obtain⟨cur',hb',hle',hmax,hcs',hct⟩:=hraw
 have hcc:cur' =cur:=by rw [D]at hb';injection hb' with e;injection e with e1;exact e1.symm
 subst hcc
 have hno' :S b=none:=hno b rfl
 have hoff' :=mP hoff
 have hl3:=q.len h3
 have hmul:i.toNat*r.sz+r.sz<=xs.length*r.sz:=by rw [<-Nat.succ_mul];exact sJ _ hlt
 have hmul2:xs.length*r.sz<=cur'.size:=by rw [hcs];exact sJ _ hle
 obtain⟨w',hr,e1,e2,e3,e4,e5,e6⟩:=fj ti hsz h3 D (off:=i.toNat*r.sz+foff) (by omega)
 have hrun:(execOp a.eval ⟨none,.store T p x,ty,pos,after,none⟩).run E.P w= .ok .skip w' :=by
  simp [execOp,H,J,Instr.storeAt,cv,aj,Instr.sureAddr,hr]
 refine⟨fun c h=>(by cases h),?_⟩
 rw [hrun]
 have hnew:=hset S _ _ _ _ h6 h3
 have hrc' :=ud hnew hrc hlt
 have hcl:=gX hrc
 have hcells:(cur'.toList.take (i.toNat*r.sz+foff)++ds++cur'.toList.drop (i.toNat*r.sz+foff+q.sz)).take (xs.length*r.sz)=
   cells.take (i.toNat*r.sz)++(((cur'.toList.drop (i.toNat*r.sz)).take r.sz).take foff++ds++((cur'.toList.drop (i.toNat*r.sz)).take r.sz).drop (foff+q.sz))++cells.drop (i.toNat*r.sz+r.sz):=by
  subst hct
  apply Bt
  intro j
  simp only [List.getElem?_take,List.getElem?_append,sd,wv,Ac,j6,yH]
  rcases jq j (xs.length*r.sz)with hj|hj
  ·simp only [hj,qw]
   rcases jq j (i.toNat*r.sz)with hj1|hj1
   ·rw [fE (by omega),fE (by omega),fE (by omega),fE (by omega),fE (by omega),fE (by omega)]
   ·rcases jq j (i.toNat*r.sz+foff)with hj2|hj2
    ·rw [fE (by omega),fE (by omega),fE (by omega),fE (by omega),cS (by omega),fE (by omega),fE (by omega),fE (by omega),fE (by omega)]
     congr 1;omega
    ·rcases jq j (i.toNat*r.sz+foff+q.sz)with hj3|hj3
     ·rw [fE (by omega),cS (by omega),fE (by omega),cS (by omega),fE (by omega),cS (by omega)]
      congr 1;omega
     ·rw [cS (by omega)]
      rcases jq j (i.toNat*r.sz+r.sz)with hj4|hj4
      ·rw [fE (by omega),cS (by omega),cS (by omega),fE (by omega)]
       congr 1;omega
      ·rw [cS (by omega),fE (by omega)]
       congr 1;omega
  ·rw [cS (by omega),cS (by omega),cS (by omega)]
 obtain⟨g1,g2,g3⟩:=iy (O:=O) st.sat (eg r U (some b) cap xs) (eg r U (some b) cap (xs.set i.toNat (set y v))) st.own (fun k=>⟨fun h=>(kP h).symm,fun h=>by rw [h];rfl⟩) (fun k=>⟨fun h=>(kP h).symm,fun h=>by rw [h];rfl⟩) ⟨e1,e2,e3,e4.1,e4.2⟩ e6
  ⟨_,⟨_,e5,by rw [CI];exact hle,hmax,by simp only [CL,j6,wv,Ac,yH];omega,by rw [CI];exact hcells⟩,hrc',fun k hk=>by rw [<-kP hk];exact hno'⟩ hno'
 exact k _ _ S ⟨st.ext.step g1 (fun c hc=>st.own.1.2 c (by rw [hc];rfl)),g2,g3,st.facts⟩

def jr(sz:Nat)(l:Option Nat)(cap lo n:Nat):Value:=
 match l with
 |none=> .slice none 0 0
 |some b=> .slice (some ⟨b,if cap=lo then 0 else lo*sz,none⟩) n (cap-lo)
section
variable{ty:TypeId}
def zk(h:sm mm r U l cap xs w S): ∃ad c,M l cap xs.length= .slice ad xs.length c/\xs.length<=c/\ad=l.map (fun b=>⟨b,0,none⟩)/\(l=none->c=0/\xs=[])/\(l≠none->c=cap):=by
 obtain⟨cells,H,_⟩:=h
 cases l with
 |none=>
  have A:xs=[]:=uX H.1
  subst A
  exact⟨none,0,rfl,gP _,rfl,fun _=>⟨rfl,rfl⟩,fun h=>absurd rfl h⟩
 |some b=>
  obtain⟨cur,_,g2,_⟩:=H
  exact⟨_,cap,rfl,g2,rfl,fun h=>(by cases h),fun _=>rfl⟩
def oD{hi:Operand}(Y:E.P.underlying t=some (.slice T))(ti:TI E.P T sz bytes agg z)(hsz:r.sz=sz)(hm:gL mm r U l cap xs∈O)(A:ax E.N G x (tV (M l cap n)))(hhi:ax E.N G hi (V (rI k') j))(h:cB xs 0 j=some ys)(hn:n=xs.length:=by rfl):bE E O G ⟨dst,.slice t x none (some hi) none,ty,pos,after,g⟩ (tV (M l cap ys.length)):=
 .of_pure fun a w S _ ho hf=>by
  subst hsz
  subst hn
  have H:a.eval x=M l cap xs.length:=A S a hf
  obtain⟨ad,c,J,h3,h4,h5,h5'⟩:=zk (ho.mem _ hm).1
  have h6:=dK.1 (hhi S a hf)
  obtain⟨lo,m,hl,rfl,h7,h8,rfl⟩:=ea h
  have hl0:lo=0:=by omega
  subst hl0
  have hlen:((xs.take m).drop 0).length=m:=by simp;omega
  refine⟨_,?_,rfl⟩
  rw [J]at H
  have hr:(execOp a.eval ⟨dst,.slice t x none (some hi) none,ty,pos,after,g⟩).run E.P w= .ok (.value (.slice ad m c)) w:=by
   simp [execOp,Instr.sliceAt,H,h6,Instr.slice,mK Y,Instr.sliceBounds,kY (k:=k') (n:=(m:Int)) (y:=c) (by omega) (by omega),ti.sizeOf]
   cases ad<;>simp [Addr.add]
  rw [hr,hlen,h4]
  cases l with
  |none=>
   obtain⟨rfl,rfl⟩:=h5 rfl
   have:m=0:=by simpa using h8
   subst this;rfl
  |some b=>rw [h5' (by simp)];rfl
def mw{lo:Operand}{i:Int}(Y:E.P.underlying t=some (.slice T))(ti:TI E.P T sz bytes agg z)(hsz:r.sz=sz)(hm:gL mm r U l cap xs∈O)(A:ax E.N G x (tV (M l cap n)))(hlo:ax E.N G lo (V (rI k) i))(h:cB xs i (xs.length:Int)=some ys)(hn:n=xs.length:=by rfl):bE E O G ⟨dst,.slice t x (some lo) none none,ty,pos,after,g⟩ (tV (jr sz l cap i.toNat ys.length)):=
 .of_pure fun a w S _ ho hf=>by
  subst hsz
  subst hn
  have H:a.eval x=M l cap xs.length:=A S a hf
  obtain⟨ad,c,J,h3,h4,h5,h5'⟩:=zk (ho.mem _ hm).1
  have h6:=dK.1 (hlo S a hf)
  obtain⟨lo',m,rfl,hm',h7,h8,rfl⟩:=ea h
  have hm2:m=xs.length:=by omega
  subst hm2
  have hlen:((xs.take xs.length).drop lo').length=xs.length-lo' :=by simp
  refine⟨_,?_,rfl⟩
  rw [J]at H
  have hr:(execOp a.eval ⟨dst,.slice t x (some lo) none none,ty,pos,after,g⟩).run E.P w= .ok (.value (.slice (if c=lo' then ad else ad.map (·.add (lo' *r.sz))) (xs.length-lo') (c-lo'))) w:=by
   simp [execOp,Instr.sliceAt,H,h6,Instr.slice,mK Y,Instr.sliceBounds,kY (k:=k) (n:=(lo' :Int)) (y:=xs.length) (by omega) (by omega),ti.sizeOf]
  rw [hr,hlen,h4]
  cases l with
  |none=>
   obtain⟨rfl,rfl⟩:=h5 rfl
   have:lo' =0:=by simpa using h7
   subst this;rfl
  |some b=>
   rw [h5' (by simp)]
   unfold jr
   simp only [CK,Option.map_some,fc,qr]
   split<;>rfl
def sS{i:Int}(h:cB xs lo hi=some ys)(hy:gI ys i=some y):gI xs (lo+i)=some y/\0<=lo/\0<=i:=by
 obtain⟨l,m,rfl,rfl,H,J,rfl⟩:=ea h
 obtain⟨h0,h3⟩:=fK hy
 refine⟨?_,by omega,h0⟩
 obtain⟨j,rfl⟩: ∃j:Nat,i=j:=⟨i.toNat,by omega⟩
 rw [show((l:Int)+(j:Int))=((l+j:Nat):Int)from by omega,la]
 rw [sd,CK]at h3
 have hlt:l+j<m:=by
  have:=(mO.1 h3).1
  simp at this;omega
 rwa [uV hlt]at h3
def sx{e:TypeId}{i:Int}(Y:E.P.underlying t=some (.slice e))(ti:TI E.P e sz bytes agg z)(hsz:r.sz=sz)(hm:gL mm r U l cap xs∈O)(hs:cB xs lo hi=some ys)(A:ax E.N G x (tV (jr sz l cap lo.toNat ys.length)))(hi' :ax E.N G ix (V (rI k) i))(hy:gI ys i=some y):
  bE E O G ⟨dst,.indexAddr t x ix,ty,pos,after,g⟩ (tV (cv l ((lo+i).toNat*sz+0))):=
 .of_pure fun a w S _ ho hf=>by
  subst hsz
  have H:a.eval x=jr r.sz l cap lo.toNat ys.length:=A S a hf
  have h3:a.eval ix= .int k i:=dK.1 (hi' S a hf)
  obtain⟨hxi,hl0,hi0⟩:=sS hs hy
  obtain⟨_,hx'⟩:=fK hxi
  obtain⟨b,cur,rfl,_,hle,_⟩:=k8 (ho.mem _ hm).1 hx'
  have hlt:i.toNat<ys.length:=(mO.1 (fK hy).2).1
  have hlt2:(lo+i).toNat<xs.length:=(mO.1 hx').1
  have hne: ¬(cap=lo.toNat):=by omega
  refine⟨_,?_,rfl⟩
  have hc:0<=i/\i<(ys.length:Int):=⟨hi0,by omega⟩
  have e1:(lo+i).toNat=lo.toNat+i.toNat:=by omega
  simp [execOp,H,h3,jr,hne,Instr.indexAt,asIntOf,mK Y,hc,ti.sizeOf,fc,cv,aj,e1,rY]
def EH{e:TypeId}(Y:E.P.underlying t=some (.slice e))(hm:gL mm r U l cap xs∈O)(hs:cB xs lo hi=some ys)(A:ax E.N G x (tV (jr sz l cap lo.toNat ys.length))):
  bE E O G ⟨dst,.call ⟨.builtin .len,#[x],#[t]⟩,ty,pos,after,g⟩ (V (rI .i64) (ys.length:Int)):=
 .of_pure fun a w S _ ho hf=>by
  have H:a.eval x=jr sz l cap lo.toNat ys.length:=A S a hf
  obtain⟨ad,c,h3⟩: ∃ad c,jr sz l cap lo.toNat ys.length= .slice ad ys.length c:=by
   cases l with
   |none=>
    obtain⟨_,J,_⟩:=(ho.mem _ hm).1
    have hx0:xs=[]:=uX J.1
    subst hx0
    obtain⟨l',m,_,_,_,h8,rfl⟩:=ea hs
    exact⟨none,0,by simp [jr]⟩
   |some b=>exact⟨_,_,rfl⟩
  refine⟨.int .i64 ys.length,?_,dK.2 rfl⟩
  simp [execOp,resolve,invoke,builtin,Builtin.len_,mK Y,H,h3,goInt]
end
def Ki(h:cB xs 0 j=some ys)(k:sm false r U l cap xs w S):sm false r U l cap ys w S:=by
 obtain⟨lo,m,hl,rfl,h7,h8,rfl⟩:=ea h
 have hl0:lo=0:=by omega
 subst hl0
 obtain⟨cells,H,J,h3⟩:=k
 have hlen:((xs.take m).drop 0).length=m:=by simp;omega
 have h4:mL r S (cells.take (m*r.sz)) (xs.take m):=by
  have e:xs=xs.take m++xs.drop m:=(o8 _ _).symm
  rw [e]at J
  have:=(kI J).1
  rwa [show(xs.take m).length=m from by simp;omega]at this
 refine⟨cells.take (m*r.sz),?_,by simpa using h4,fun b D=>h3 b D⟩
 rw [hlen]
 cases l with
 |none=>
  obtain⟨g1,g2⟩:=H
  exact⟨by omega,by rw [g2];simp⟩
 |some b=>
  obtain⟨cur,g1,g2,g3,g4,g5⟩:=H
  exact⟨cur,g1,by omega,g3,g4,by rw [<-g5,w8,tB (sJ _ h8)]⟩
def St.cut(h:cB xs 0 j=some ys)(st:St E (eg r U l cap xs::O) G a w S):St E (eg r U l cap ys::O) G a w S:=
 st.own_map fun ho=>⟨⟨Ki h ho.1.1,ho.1.2⟩,ho.2.1,ho.2.2⟩
def Bk(h:cB xs 0 j=some ys)(k:RG E ops ay rest (eg r U l cap ys::O) G):RG E ops ay rest (eg r U l cap xs::O) G:=fun a w S st=>k a w S (st.cut h)
def AT.cut(h:cB xs 0 j=some ys)(k:AT E ay e (eg r U l cap ys::O) G):AT E ay e (eg r U l cap xs::O) G:=fun a w S st=>k a w S (st.cut h)
def LG.cut(h:cB xs 0 j=some ys)(k:LG E ay c (eg r U l cap ys::O) G):LG E ay c (eg r U l cap xs::O) G:=fun a w S st=>k a w S (st.cut h)
end

variable{x0 x1 x10 x11 x12 x2 x3 x4 x5 x6 x7 x8 x9:OE}
section
def n8{O:List OE}(h:cr base B w S (x0::x1::x2::x3::x4::x5::O)):cr base B w S (x5::x0::x1::x2::x3::x4::O):=
 (iI h n9 (fun f hf=>by simp only [mJ]at hf ⊢;rcases hf with h|h|h|h|h|h<;>simp [h])).swap
def vN(h:RG E ops ay rest (x5::x0::x1::x2::x3::x4::O) G):RG E ops ay rest (x0::x1::x2::x3::x4::x5::O) G:=fun a w S st=>h a w S (st.own_map n8)
def dI(h:AT E ay e (x5::x0::x1::x2::x3::x4::O) G):AT E ay e (x0::x1::x2::x3::x4::x5::O) G:=fun a w S st=>h a w S (st.own_map n8)
def rU(h:LG E ay c (x5::x0::x1::x2::x3::x4::O) G):LG E ay c (x0::x1::x2::x3::x4::x5::O) G:=fun a w S st=>h a w S (st.own_map n8)
def n7{O:List OE}(h:cr base B w S (x0::x1::x2::x3::x4::x5::x6::O)):cr base B w S (x6::x0::x1::x2::x3::x4::x5::O):=
 (iI h n8 (fun f hf=>by simp only [mJ]at hf ⊢;rcases hf with h|h|h|h|h|h|h<;>simp [h])).swap
def zW(h:RG E ops ay rest (x6::x0::x1::x2::x3::x4::x5::O) G):RG E ops ay rest (x0::x1::x2::x3::x4::x5::x6::O) G:=fun a w S st=>h a w S (st.own_map n7)
def z2(h:CG E ay c (x6::x0::x1::x2::x3::x4::x5::O) G):CG E ay c (x0::x1::x2::x3::x4::x5::x6::O) G:=fun a w S st=>h a w S (st.own_map n7)
def vR(h:AT E ay e (x6::x0::x1::x2::x3::x4::x5::O) G):AT E ay e (x0::x1::x2::x3::x4::x5::x6::O) G:=fun a w S st=>h a w S (st.own_map n7)
def tt{O:List OE}(h:cr base B w S (x0::x1::x2::x3::x4::x5::x6::x7::O)):cr base B w S (x7::x0::x1::x2::x3::x4::x5::x6::O):=
 (iI h n7 (fun f hf=>by simp only [mJ]at hf ⊢;rcases hf with h|h|h|h|h|h|h|h<;>simp [h])).swap
def z7(h:AT E ay e (x7::x0::x1::x2::x3::x4::x5::x6::O) G):AT E ay e (x0::x1::x2::x3::x4::x5::x6::x7::O) G:=fun a w S st=>h a w S (st.own_map tt)
def qf{O:List OE}(h:cr base B w S (x0::x1::x2::x3::x4::x5::x6::x7::x8::O)):cr base B w S (x8::x0::x1::x2::x3::x4::x5::x6::x7::O):=
 (iI h tt (fun f hf=>by simp only [mJ]at hf ⊢;rcases hf with h|h|h|h|h|h|h|h|h<;>simp [h])).swap
def Gy(h:RG E ops ay rest (x8::x0::x1::x2::x3::x4::x5::x6::x7::O) G):RG E ops ay rest (x0::x1::x2::x3::x4::x5::x6::x7::x8::O) G:=fun a w S st=>h a w S (st.own_map qf)
def GL(h:AT E ay e (x8::x0::x1::x2::x3::x4::x5::x6::x7::O) G):AT E ay e (x0::x1::x2::x3::x4::x5::x6::x7::x8::O) G:=fun a w S st=>h a w S (st.own_map qf)
def qe{O:List OE}(h:cr base B w S (x0::x1::x2::x3::x4::x5::x6::x7::x8::x9::O)):cr base B w S (x9::x0::x1::x2::x3::x4::x5::x6::x7::x8::O):=
 (iI h qf (fun f hf=>by simp only [mJ]at hf ⊢;rcases hf with h|h|h|h|h|h|h|h|h|h<;>simp [h])).swap
def GK(h:AT E ay e (x9::x0::x1::x2::x3::x4::x5::x6::x7::x8::O) G):AT E ay e (x0::x1::x2::x3::x4::x5::x6::x7::x8::x9::O) G:=fun a w S st=>h a w S (st.own_map qe)
def GB(h:LG E ay c (x9::x0::x1::x2::x3::x4::x5::x6::x7::x8::O) G):LG E ay c (x0::x1::x2::x3::x4::x5::x6::x7::x8::x9::O) G:=fun a w S st=>h a w S (st.own_map qe)
def mG{O:List OE}(h:cr base B w S (x0::x1::x2::x3::x4::x5::x6::x7::x8::x9::x10::O)):cr base B w S (x10::x0::x1::x2::x3::x4::x5::x6::x7::x8::x9::O):=
 (iI h qe (fun f hf=>by simp only [mJ]at hf ⊢;rcases hf with h|h|h|h|h|h|h|h|h|h|h<;>simp [h])).swap
def D9(h:RG E ops ay rest (x10::x0::x1::x2::x3::x4::x5::x6::x7::x8::x9::O) G):RG E ops ay rest (x0::x1::x2::x3::x4::x5::x6::x7::x8::x9::x10::O) G:=fun a w S st=>h a w S (st.own_map mG)
def ae(h:AT E ay e (x10::x0::x1::x2::x3::x4::x5::x6::x7::x8::x9::O) G):AT E ay e (x0::x1::x2::x3::x4::x5::x6::x7::x8::x9::x10::O) G:=fun a w S st=>h a w S (st.own_map mG)
def dC(h:LG E ay c (x10::x0::x1::x2::x3::x4::x5::x6::x7::x8::x9::O) G):LG E ay c (x0::x1::x2::x3::x4::x5::x6::x7::x8::x9::x10::O) G:=fun a w S st=>h a w S (st.own_map mG)
def mF{O:List OE}(h:cr base B w S (x0::x1::x2::x3::x4::x5::x6::x7::x8::x9::x10::x11::O)):cr base B w S (x11::x0::x1::x2::x3::x4::x5::x6::x7::x8::x9::x10::O):=
 (iI h mG (fun f hf=>by simp only [mJ]at hf ⊢;rcases hf with h|h|h|h|h|h|h|h|h|h|h|h<;>simp [h])).swap
def tn(h:RG E ops ay rest (x11::x0::x1::x2::x3::x4::x5::x6::x7::x8::x9::x10::O) G):RG E ops ay rest (x0::x1::x2::x3::x4::x5::x6::x7::x8::x9::x10::x11::O) G:=fun a w S st=>h a w S (st.own_map mF)
def bn(h:AT E ay e (x11::x0::x1::x2::x3::x4::x5::x6::x7::x8::x9::x10::O) G):AT E ay e (x0::x1::x2::x3::x4::x5::x6::x7::x8::x9::x10::x11::O) G:=fun a w S st=>h a w S (st.own_map mF)
def df(h:LG E ay c (x11::x0::x1::x2::x3::x4::x5::x6::x7::x8::x9::x10::O) G):LG E ay c (x0::x1::x2::x3::x4::x5::x6::x7::x8::x9::x10::x11::O) G:=fun a w S st=>h a w S (st.own_map mF)
def rh{O:List OE}(h:cr base B w S (x0::x1::x2::x3::x4::x5::x6::x7::x8::x9::x10::x11::x12::O)):cr base B w S (x12::x0::x1::x2::x3::x4::x5::x6::x7::x8::x9::x10::x11::O):=
 (iI h mF (fun f hf=>by simp only [mJ]at hf ⊢;rcases hf with h|h|h|h|h|h|h|h|h|h|h|h|h<;>simp [h])).swap
def tm(h:RG E ops ay rest (x12::x0::x1::x2::x3::x4::x5::x6::x7::x8::x9::x10::x11::O) G):RG E ops ay rest (x0::x1::x2::x3::x4::x5::x6::x7::x8::x9::x10::x11::x12::O) G:=fun a w S st=>h a w S (st.own_map rh)
def bd(h:AT E ay e (x12::x0::x1::x2::x3::x4::x5::x6::x7::x8::x9::x10::x11::O) G):AT E ay e (x0::x1::x2::x3::x4::x5::x6::x7::x8::x9::x10::x11::x12::O) G:=fun a w S st=>h a w S (st.own_map rh)
end

def eI(h:xs.set i y=zs):zs.length=xs.length:=by rw [<-h,CI]
section
def fV(hl:m=n)(s:Nat)(hs:look G s=some (tV (M l cap n)))(k:RG E ops ay rest O ((s,tV (M l cap m))::G)):RG E ops ay rest O G:=by
 subst hl
 exact fun a w S st=>k a w S (st.cons (st.facts.at_ s _ hs))
end

def ed{o1 o2:Nat}{g1:α->β}{g2:β->γ}(H:fW r o1 q g1)(J:fW q o2 s g2)(D:Nat.ble (o2+s.sz) q.sz=true:=by rfl):fW r (o1+o2) s (fun x=>g2 (g1 x)):=fun S cs x h=>by
 have h3:=J S _ _ (H S cs x h)
 have hb' :=mP D
 rwa [z8,w8,tA,tB (by omega)]at h3
def iv{o1 o2:Nat}{g1:α->β}{u1:α->β->α}{u2:β->γ->β}(H:fW r o1 q g1)(k1:dk r o1 q u1)(k2:dk q o2 s u2)(D:Nat.ble (o2+s.sz) q.sz=true:=by rfl)(hc:Nat.ble (o1+q.sz) r.sz=true:=by rfl):
  dk r (o1+o2) s (fun x y=>u1 x (u2 (g1 x) y)):=fun S cs x ds y h hy=>by
 have hb' :=mP D
 have hc' :=mP hc
 have hl:=r.len h
 have h3:=k1 S cs x _ _ h (k2 S _ _ ds y (H S cs x h) hy)
 have e:cs.take (o1+o2)++ds++cs.drop (o1+o2+s.sz)=cs.take o1++(((cs.drop o1).take q.sz).take o2++ds++((cs.drop o1).take q.sz).drop (o2+s.sz))++cs.drop (o1+q.sz):=by
  rw [w8,tB (by omega),z8,tA,List.take_add,show o1+(o2+s.sz)=o1+o2+s.sz from by omega]
  simp only [sa]
  congr 3
  have e2:cs.drop (o1+q.sz)=(cs.drop (o1+o2+s.sz)).drop (q.sz-(o2+s.sz)):=by rw [tA];congr 1;omega
  rw [e2,o8]
 rw [e];exact h3

def dB(P:Program)(f:FuncId)(ts:List Ty)(O1:List OE){ι:Type}(t:ι->Ty)(O2:ι->List OE):Prop:=
 ∀w S vs,hY w S->sn S ts vs->cr 0 oE w S O1->Calls P f vs.toArray w fun en w' => ∃i v S',en= .returned v/\(t i).p S' v/\gj (fun k=> ∃f∈O1,f.fp k) w S w' S' /\hY w' S' /\cr 0 oE w' S' (O2 i)/\ ∀k,(∃f∈O2 i,f.fp k)->(∃f∈O1,f.fp k)\/w.heap.size<=k
def J6(E:En)(O1:List OE){ι:Type}(t:ι->Ty)(O2:ι->List OE):Ending->World->Prop:=fun en w' =>
 ∃i v S',en= .returned v/\(t i).p S' v/\gj E.B E.w0 E.S0 w' S' /\hY w' S' /\cr 0 oE w' S' (O2 i)/\ ∀k,(∃f∈O2 i,f.fp k)->(∃f∈O1,f.fp k)\/E.w0.heap.size<=k
def EV(O1:List OE):Nat->Prop:=fun k=> ∃f∈O1,f.fp k
def dB.of{t:ι->Ty}(hf:P.funcs[f]? =some fn)(D:fn.body=some c)(hN:fn.ntmps=N)(hn:Nat.ble ts.length N=true)(h: ∀w0 S0,CG ⟨P,⟨N,[]⟩,EV O1,w0,S0,none⟩ (bodyPost P fn (J6 ⟨P,⟨N,[]⟩,EV O1,w0,S0,none⟩ O1 t O2)) c O1 (sB 0 ts)):dB P f ts O1 t O2:=by
 subst hN
 intro w S vs hs hv ho
 exact p6.1 (callsIn_of_wp (F:=fw none) (n:=0) hf D trivial (h w S _ w S ⟨gj.refl _ _ _,hs,rR ho fun f hf k hk=> .inr ⟨f,hf,hk⟩,s9 hv _ (mP hn)⟩))
def Fb{t:ι->Ty}{v:Value}(st:St E O G a w S)(hB:E.B=EV O1)(i:ι)(hO:O=O2 i)(hv:(t i).p S v):J6 E O1 t O2 (.returned v) w:=by
 subst hO
 refine⟨i,v,S,rfl,hv,st.ext,st.sat,st.own.weak,fun k ⟨f,hf,hk⟩=>?_⟩
 rcases(cr.mem st.own f hf).2 k hk with h|h
 ·exact .inr h
 ·rw [hB]at h;exact .inl h
section
variable{t:ι->Ty}
def de{k:Nat}{u:Ty}(hr:fn.results= #[.tmp k])(i:ι)(hO:O=O2 i)(hk:look G k=some u)(hu: ∀S v,u.p S v->(t i).p S v):
  AT ⟨P,⟨N,[]⟩,EV O1,w0,S0,none⟩ (bodyPost P fn (J6 ⟨P,⟨N,[]⟩,EV O1,w0,S0,none⟩ O1 t O2)) .ret O G:=fun _ _ S st=>
 ⟨st.facts.defers,_,mW P fn k hr _ _,Fb st rfl i hO (hu S _ (st.facts.at_ k u hk))⟩
end
def yw: ∀{O1 O2:List OE},cr base B w S O1->cr base B w S O2->(∀e∈O1,∀f∈O2,e.apart f)->cr base B w S (O1++O2)
 |[],_,_,h,_=>h
 |e::O1,O2,⟨H,J,h3⟩,h,ha=>⟨H,fun f hf=>(List.mem_append.1 hf).elim (J f) (ha e (oh ..) f),yw h3 h fun g K f hf=>ha g (oj _ K) f hf⟩
section
variable{ty:TypeId}
def St.turn{Or O2:List OE}(st:St E (O1++Or) G a w S)(A:gj (fun k=> ∃f∈O1,f.fp k) w S w' S')(hs:hY w' S')(ho:cr 0 oE w' S' O2)(hn: ∀k,(∃f∈O2,f.fp k)->(∃f∈O1,f.fp k)\/w.heap.size<=k):St E (O2++Or) G a w' S' :=by
 obtain⟨H,J,h3⟩:=kM st.own
 have hbl:=st.base_le
 refine⟨st.ext.step A (fun b ⟨f,hf,D⟩=>(cr.mem H f hf).2 b D),hs,yw (rR ho fun f hf k hk=>?_) (J.ext A fun f hf b D ⟨g,K,hgb⟩=>h3 g K f hf b hgb D) (fun e he f hf b heb hfb=>?_),st.facts.mono A.keep⟩
 ·rcases hn k ⟨f,hf,hk⟩with⟨g,K,hgk⟩|h
  ·exact(cr.mem H g K).2 k hgk
  ·exact .inl (iZ hbl h)
 ·rcases hn b ⟨e,he,heb⟩with⟨g,K,hgb⟩|h
  ·exact h3 g K f hf b hgb hfb
  ·have:=f.here (cr.mem J f hf).1 b hfb
   omega
def uO{xs:List Operand}(O1 Or:List OE){t:ι->Ty}(hO:O=O1++Or)(hc:af E.P f=true)(hs:dB E.P f ts O1 t O2)(A:fM E.N G xs ts)(hd:Nat.blt ac E.N.n=true)(k: ∀i,RG E ops ay rest (O2 i++Or) ((ac,t i)::G)):
  RG E ops ay (⟨some ac,.call ⟨.value (.func f),xs.toArray,ats⟩,ty,pos,after,none⟩::rest) O G:= .of rfl fun a w S st=>by
 subst hO
 have hr:(execOp a.eval ⟨some ac,.call ⟨.value (.func f),xs.toArray,ats⟩,ty,pos,after,none⟩).run E.P w= .ok (.enter f (xs.map a.eval).toArray) w:=by
  simp [execOp,resolve,Act.eval,Deferred.ofValue,invoke,fA hc]
 refine⟨fun c h=>(by cases h),?_⟩
 rw [hr]
 refine(hs w S _ st.sat (A.tys st.facts) (kM st.own).1.weak).mono fun en w' ⟨i,v,S',he,hv,H,J,h3,h4⟩=>⟨_,he,?_⟩;exact k i _ _ S' ((st.turn H J h3 h4).put hd hv)
end

structure OI where
 h:Nat->Option Nat×Nat:=fun _=>(none,0)
 os:List (Option Nat×Nat):=[]
 fp:Nat->Prop:=oE
 v:Value:=undef
 ng:Nat->(Option Nat×Nat)×(Nat->Option Nat×Nat):=fun _=>((none,0),fun _=>(none,0))
 oss:Nat->List (Option Nat×Nat):=fun _=>[]
def kT:OI:={}
def oi(l:Option Nat)(c:Nat):OI:={h:=fun _=>(l,c)}
def EffOK(E:En)(O:List OE)(need:io)(o:Oper)(post:OI->List OE)(t:OI->Ty):Prop:=
 ∀a w S,hY w S->cr E.base E.B w S O->cH E.N S a need->E.base<=w.heap.size->
  BZ E.P o a w (fun a' w' => ∃v S' x,a' =a.put o.dst v/\gj (EV O) w S w' S' /\hY w' S' /\cr E.base E.B w' S' (post x)/\(t x).p S' v)
variable{post:OI->List OE}
section
variable{ty:TypeId}
def DW{t' :TypeId}{y:Operand}{u:OI->Ty}(ti:TI E.P T sz bytes agg z)(hsz:r.sz=sz)(hz:Nat.beq z.length sz=true)(h0:Nat.blt 0 sz=true)(h128:Nat.ble bytes 2048=true)(Y:E.P.underlying t=some (.slice T))(A:ax E.N G x (tV (M l cap n)))(hy: ∀a w S,hY w S->cH E.N S a G-> ∃news,Src E.P r.sz t' (a.eval y) ys.length news w/\mL r S news ys)(happ:mM xs ys=some zs)(hu: ∀l' cap' w0 S,(gL mm r T l' cap' zs).p w0 S->(u (oi l' cap')).p S (M l' cap' zs.length))(hn:n=xs.length):
  EffOK E (gL mm r T l cap xs::O) G ⟨some ac,.call ⟨.builtin .append,#[x,y],#[t,t']⟩,ty,pos,after,g⟩ (fun i=>gL mm r T (i.h 0).1 (i.h 0).2 zs::O) u:=fun a w S hs ho hf D=>by
 subst hn
 have H:a.eval x=M l cap xs.length:=A S a hf
 obtain⟨news,J,h3⟩:=hy a w S hs hf
 obtain⟨l',cap',w',S',hr,hext,hsat,hh,hnew⟩:=qM (ty:=ty) ti hsz hz h0 h128 Y hs ho.1 D J h3 happ
 have hrun:(execOp a.eval ⟨some ac,.call ⟨.builtin .append,#[x,y],#[t,t']⟩,ty,pos,after,g⟩).run E.P w= .ok (.value (M l' cap' zs.length)) w' :=by
  simp [execOp,resolve,invoke,builtin,H,hr]
 refine⟨fun c h=>(by cases h),?_⟩
 rw [hrun]
 refine⟨_,S',oi l' cap',rfl,hext.more fun b D=>⟨_,oh ..,D⟩,hsat,⟨hh,fun f hf b D hfb=>?_,ho.2.2.ext hext fun f hf b D hbl=>ho.2.1 f hf b hbl D⟩,hu l' cap' w' S' hh.1⟩
 rcases hnew b D with h|h
 ·exact ho.2.1 f hf b h hfb
 ·have:=f.here (cr.mem ho.2.2 f hf).1 b hfb
  omega
def hE{t' :TypeId}{y:Operand}(ti:TI E.P T sz bytes agg z)(hsz:r.sz=sz)(hz:Nat.beq z.length sz=true)(h0:Nat.blt 0 sz=true)(h128:Nat.ble bytes 2048=true)(Y:E.P.underlying t=some (.slice T))(ht' :t' =t)(A:ax E.N G x (tO r l cap xs))(hy:ax E.N G y (V (dz r) ys))(happ:mM xs ys=some zs):
  EffOK E (Z r T l cap xs::O) G ⟨some ac,.call ⟨.builtin .append,#[x,y],#[t,t']⟩,ty,pos,after,g⟩ (fun i=>Z r T (i.h 0).1 (i.h 0).2 zs::O) (fun i=>tO r (i.h 0).1 (i.h 0).2 zs):=by
 subst ht'
 exact DW ti hsz hz h0 h128 Y (sQ A) (fun a w S hs hf=>qF Y hs (hy S a hf)) happ (fun _ _ _ _ h=>⟨rfl,ir h⟩) rfl
def Gk{xs:List Operand}{u:OI->Ty}(hc:af E.P f=true)(hs:fL E.P f ts mm r T ys)(A:fM E.N G xs ts)(hu: ∀l cap w0 S,(gL mm r T l cap ys).p w0 S->(u (oi l cap)).p S (M l cap ys.length)):
  EffOK E O G ⟨some ac,.call ⟨.value (.func f),xs.toArray,ats⟩,ty,pos,after,g⟩ (fun i=>gL mm r T (i.h 0).1 (i.h 0).2 ys::O) u:=fun a w S hsat ho hf D=>by
 have hr:(execOp a.eval ⟨some ac,.call ⟨.value (.func f),xs.toArray,ats⟩,ty,pos,after,g⟩).run E.P w= .ok (.enter f (xs.map a.eval).toArray) w:=by
  simp [execOp,resolve,Act.eval,Deferred.ofValue,invoke,fA hc]
 refine⟨fun c h=>(by cases h),?_⟩
 rw [hr]
 exact(hs w S _ hsat (A.tys hf)).mono fun e w' ⟨l,cap,S',he,H,J,h3⟩=>⟨_,he,_,S',oi l cap,rfl,H.more fun _ D=>D.elim,J,nd ho H h3.1 (fun b D=>(h3.2 b D).resolve_right id) D,hu l cap w' S' h3.1⟩
def cr.turn{Or O2:List OE}(h:cr base B w S (O1++Or))(hbl:base<=w.heap.size)(A:gj (EV O1) w S w' S')(ho:cr 0 oE w' S' O2)(hn: ∀k,(∃f∈O2,f.fp k)->(∃f∈O1,f.fp k)\/w.heap.size<=k):cr base B w' S' (O2++Or):=by
 obtain⟨H,J,h3⟩:=kM h
 refine yw (rR ho fun f hf k hk=>?_) (J.ext A fun f hf b D ⟨g,K,hgb⟩=>h3 g K f hf b hgb D) (fun e he f hf b heb hfb=>?_)
 ·rcases hn k ⟨f,hf,hk⟩with⟨g,K,hgk⟩|h
  ·exact(cr.mem H g K).2 k hgk
  ·exact .inl (iZ hbl h)
 ·rcases hn b ⟨e,he,heb⟩with⟨g,K,hgb⟩|h
  ·exact h3 g K f hf b hgb hfb
  ·have:=f.here (cr.mem J f hf).1 b hfb
   omega
def fT{xs:List Operand}(O1 Or:List OE){t:OI->Ty}{O2:OI->List OE}(hO:O=O1++Or)(hc:af E.P f=true)(hs:dB E.P f ts O1 t O2)(A:fM E.N G xs ts)(hpost: ∀i,O2 i++Or=post i):
  EffOK E O G ⟨some ac,.call ⟨.value (.func f),xs.toArray,ats⟩,ty,pos,after,g⟩ post t:=fun a w S hsat ho hf D=>by
 subst hO
 obtain rfl:(fun i=>O2 i++Or)=post:=funext hpost
 have hr:(execOp a.eval ⟨some ac,.call ⟨.value (.func f),xs.toArray,ats⟩,ty,pos,after,g⟩).run E.P w= .ok (.enter f (xs.map a.eval).toArray) w:=by
  simp [execOp,resolve,Act.eval,Deferred.ofValue,invoke,fA hc]
 refine⟨fun c h=>(by cases h),?_⟩
 rw [hr]
 exact(hs w S _ hsat (A.tys hf) (kM ho).1.weak).mono fun en w' ⟨i,v,S',he,hv,H,J,h3,h4⟩=>⟨_,he,v,S',i,rfl,H.more fun b ⟨f,hf,D⟩=>⟨f,CO _ hf,D⟩,J,cr.turn ho D H h3 h4,hv⟩
def km{op:Op}{t:OI->Ty}(h:EffOK E O G ⟨some ac,op,ty,pos,after,none⟩ post t)(hd:Nat.blt ac E.N.n=true)(k: ∀x:OI,RG E ops ay rest (post x) ((ac,t x)::G)):RG E ops ay (⟨some ac,op,ty,pos,after,none⟩::rest) O G:= .of rfl fun a w S st=>
 jT (fun a' w' ⟨v,S',x,ha,A,hs,ho,hv⟩=>by
  subst ha
  exact k x _ _ S' ⟨st.ext.step A fun b ⟨f,hf,D⟩=>(cr.mem st.own f hf).2 b D,hs,ho,(st.facts.mono A.keep).put hd hv⟩) (h a w S st.sat st.own st.facts st.base_le)
end

def GM(σ:Nat->OI)(k:Nat)(x:OI):Nat->OI:=fun j=>bif Nat.beq j k then x else σ j
def An(σ:Nat->OI){k j:Nat}(x:OI)(h:j≠k):GM σ k x j=σ j:=by
 have:Nat.beq j k=false:=by
  cases D:Nat.beq j k with
  |false=>rfl
  |true=>exact absurd (kR D) h
 simp [GM,this]
structure NE where
 slot:Nat
 ty:(Nat->OI)->Ty
 src:Option Nat
def ON(G:io)(ts:List (OI->Ty))(n:NE):Prop:=
 match n.src with
 |some j=> ∀σ,(ts[j]?).map (fun f=>f (σ j))=some (n.ty σ)
 |none=> ∀σ,look G n.slot=some (n.ty σ)
def Fk(G:io)(ts:List (OI->Ty)):List NE->Prop
 |[]=>True
 |n::l=>ON G ts n/\Fk G ts l
def Fk.mem{ts:List (OI->Ty)}: ∀{l:List NE},Fk G ts l-> ∀n∈l,ON G ts n
 |_::_,⟨h,_⟩,_,.head _=>h
 |_::_,⟨_,h⟩,_,.tail _ hm=>Fk.mem h _ hm
def gw(E:En)(ops:Array Oper)(O:List OE)(need:io)(o:Oper)(post:OI->List OE)(t:OI->Ty):Prop:=
 ∀a w S,hY w S->cr E.base E.B w S O->cH E.N S a need->E.base<=w.heap.size->
  if Region.wanted o (yielded ops a.tmps)then BZ E.P o a w (fun a' w' => ∃v S' x,a' =a.put o.dst v/\gj (EV O) w S w' S' /\hY w' S' /\cr E.base E.B w' S' (post x)/\(t x).p S' v)
  else∃x,cr E.base E.B w S (post x)/\(t x).p S undef
def bB{need:io}{t:OI->Ty}(K:o.guard=none)(h:EffOK E O need o post t):gw E ops O need o post t:=fun a w S hs ho hf D=>by
 have:Region.wanted o (yielded ops a.tmps)=true:=by unfold Region.wanted;rw [K]
 rw [this,fE rfl]
 exact h a w S hs ho hf D
def ep(es:List Bool)(i:Nat):Nat:=(es.take i).countP (· ==true)
def D3(L:List Oper)(es:List Bool):Bool:=(List.range es.length).all fun i=>(List.range i).all fun j=> !((es[i]?).getD false&&(es[j]?).getD false)||jh L L.length i j
structure DJE(E:En)(G:io)(l:List Oper)(ts:List (OI->Ty))(Om:Nat->(Nat->OI)->List OE)(es:List Bool)(done:Array Bool)(a:Act)(w:World)(S:SH)(σ:Nat->OI)(c:Nat):Prop where
 ext:gj E.B E.w0 E.S0 w S
 sat:hY w S
 own:cr E.base E.B w S (Om c σ)
 size:a.tmps.size=E.N.n
 defers:a.defers=E.N.ds
 dsz:done.size=l.length
 down: ∀j o,l[j]? =some o->done.getD j false=true-> ∀e∈o.after,Region.binds .any e=true->done.getD e.on false=true
 old: ∀k t,look G k=some t->(∀j o,l[j]? =some o->done.getD j false=true->o.dst≠some k)->t.p S (a.tmps.getD k undef)
 new: ∀j o ac f,l[j]? =some o->done.getD j false=true->o.dst=some ac->ts[j]? =some f->(f (σ j)).p S (a.tmps.getD ac undef)
 chain: ∀k,es[k]? =some true->(done.getD k false=true↔ep es k<c)
variable{es:List Bool}
def yr: ∀{i j:Nat},i<j->es[i]? =some true->ep es i<ep es j:=by
 induction es with
 |nil=>intro i j _ h;simp at h
 |cons e es ih=>
  intro i j hij h
  cases j with
  |zero=>omega
  |succ j=>
   cases i with
   |zero=>simp at h;subst h;simp [ep]
   |succ i=>
    have:=ih (i:=i) (j:=j) (by omega) (by simpa using h)
    cases e<;>simp [ep]at this ⊢ <;>omega
def qd: ∀{c k:Nat},c<ep es k-> ∃i,i<k/\es[i]? =some true/\ep es i=c:=by
 induction es with
 |nil=>intro c k h;simp [ep]at h
 |cons e es ih=>
  intro c k h
  cases k with
  |zero=>simp [ep]at h
  |succ k=>
   cases e with
   |false=>
    obtain⟨i,H,J,h3⟩:=ih (c:=c) (k:=k) (by simpa [ep] using h)
    exact⟨i+1,by omega,by simpa using J,by simpa [ep] using h3⟩
   |true=>
    cases c with
    |zero=>exact⟨0,by omega,rfl,by simp [ep]⟩
    |succ c=>
     obtain⟨i,H,J,h3⟩:=ih (c:=c) (k:=k) (by simp [ep]at h ⊢;omega)
     exact⟨i+1,by omega,by simpa using J,by simp [ep]at h3 ⊢;omega⟩
section
variable{ts:List (OI->Ty)}{Om:Nat->(Nat->OI)->List OE}
end

section
variable{ty:TypeId}
end

def zi{α:Type}{r:Rp α}{x:α}{z:List Value}(A: ∀S,r.rc S z x)(S:SH): ∀n:Nat,mL r S (List.replicate n z).flatten (List.replicate n x)
 |0=>rfl
 |n+1=>⟨z,_,by rw [List.replicate_succ,List.flatten_cons],A S,zi A S n⟩
def xN(z:List Value):(List.range z.length).map (fun i=>z[i%z.length]?.getD default)=z:=by
 apply Bt
 intro k
 rcases jq k z.length with h|h
 ·rw [y4,List.getElem?_range h]
  simp [Nat.mod_eq_of_lt h,h]
 ·rw [Ft (by simpa using h),Ft h]
def uZ(z:List Value)(n:Nat):(Builtin.zeroCells z.toArray n).toList=(List.replicate n z).flatten:=by
 unfold Builtin.zeroCells
 simp
 induction n with
 |zero=>simp
 |succ n ih=>
  rw [List.replicate_succ,List.flatten_cons,<-ih,Nat.succ_mul,Nat.add_comm,List.range_add,List.map_append,xN,List.map_map]
  congr 1
  apply List.map_congr_left
  intro i _
  simp
section
variable{ty:TypeId}
def HD(h:z.length=sz)(n:Nat):(List.replicate n z).flatten.length=n*sz:=by
 simp [h]
def Gz{x:α}{y:Operand}(ti:TI E.P T sz bytes agg z)(hsz:r.sz=sz)(hz:Nat.beq z.length sz=true)(Y:E.P.underlying t=some (.slice T))(A: ∀S,r.rc S z x)(hone:z.all (·.oneCell')=true)(hs:cB xs lo (xs.length:Int)=some ys)(hy:ax E.N G y (tV (jr sz l cap lo.toNat ys.length)))(hzs:xs.take lo.toNat++List.replicate ys.length x=zs)(k:RG E ops ay rest (eg r T l cap zs::O) G):
  RG E ops ay (⟨none,.call ⟨.builtin .clear,#[y],#[t]⟩,ty,pos,after,none⟩::rest) (eg r T l cap xs::O) G:= .of rfl fun a w S st=>by
 subst hsz
 subst hzs
 obtain⟨i,zv,hi,H,J,h3,h4⟩:=ti.get
 have hyv:a.eval y=jr r.sz l cap lo.toNat ys.length:=hy S a st.facts
 have hz2:z.length=r.sz:=kR hz
 obtain⟨lo',m,rfl,hm,h5,h6,rfl⟩:=ea hs
 have hm' :m=xs.length:=by omega
 subst hm'
 rw [Br]at hyv k
 rw [CK]at hyv k
 by_cases hnil:xs.drop lo' =[]
 ·have hlo:xs.length<=lo' :=Eh.1 hnil
  rw [hnil]at hyv k
  have e1:xs.take lo' ++List.replicate ([]:List α).length x=xs:=by simp [Ae hlo]
  rw [e1]at k
  have hrun:(execOp a.eval ⟨none,.call ⟨.builtin .clear,#[y],#[t]⟩,ty,pos,after,none⟩).run E.P w= .ok (.value (.tuple #[])) w:=by
   cases l<;>simp [execOp,resolve,invoke,builtin,Builtin.clear_,mK Y,hyv,jr]
  refine⟨fun c h=>(by cases h),?_⟩
  rw [hrun]
  exact k _ _ S st
 ·obtain⟨⟨cells,hraw,hrc,hno⟩,hbase⟩:=st.own.1
  have hlt:lo' <xs.length:=by
   rcases jq lo' xs.length with h|h
   ·exact h
   ·exact absurd (List.drop_eq_nil_of_le h) hnil
  cases l with
  |none=>have:=hraw.1;omega
  |some b=>
   obtain⟨cur,g1,g2,g3,g4,g5⟩:=hraw
   have hno' :S b=none:=hno b rfl
   have hne: ¬(cap=lo'):=by omega
   have hld:(xs.drop lo').length=xs.length-lo' :=by simp
   have hfl:=HD hz2 (xs.length-lo')
   have hones: ∀u∈(List.replicate (xs.length-lo') z).flatten,u.oneCell' =true:=by
    intro u hu
    obtain⟨q,hq,hu⟩:=List.mem_flatten.1 hu
    rw [(List.mem_replicate.1 hq).2]at hu
    exact kU.1 hone u hu
   have hmul:xs.length*r.sz<=cur.size:=by rw [g4];exact sJ _ g2
   have hfit:lo' *r.sz+(xs.length-lo')*r.sz=xs.length*r.sz:=by rw [<-rY];congr 1;omega
   have hst:=run_storeCells_at E.P b (lo' *r.sz) T (List.replicate (xs.length-lo') z).flatten 0 cur w g1 (by omega) hones
   simp only [Nat.add_zero]at hst
   have hrun:(execOp a.eval ⟨none,.call ⟨.builtin .clear,#[y],#[t]⟩,ty,pos,after,none⟩).run E.P w= .ok (.value (.tuple #[])) (w.setRow b (cur.toList.take (lo' *r.sz)++(List.replicate (xs.length-lo') z).flatten++cur.toList.drop (lo' *r.sz+(List.replicate (xs.length-lo') z).flatten.length)).toArray):=by
    have e1: ∃q,xs.length-lo' =q+1:=⟨xs.length-lo' -1,by omega⟩
    obtain⟨q,hq⟩:=e1
    have e2:a.eval y= .slice (some ⟨b,lo' *r.sz,none⟩) (q+1) (cap-lo'):=by rw [hyv,hld,hq];simp [jr,hne]
    rw [hq]at hst ⊢
    simp [execOp,resolve,invoke,builtin,Builtin.clear_,mK Y,e2,zeroValue,typeInfo,hi,h3,h4,uZ,hst]
   refine⟨fun c h=>(by cases h),?_⟩
   rw [hrun]
   have hset:=setRow_heap w b cur (cur.toList.take (lo' *r.sz)++(List.replicate (xs.length-lo') z).flatten++cur.toList.drop (lo' *r.sz+(List.replicate (xs.length-lo') z).flatten.length)).toArray T _ g1
   have hl2:(xs.take lo' ++List.replicate (xs.drop lo').length x).length=xs.length:=by simp;omega
   have hsp:mL r S (cells.take (lo' *r.sz)) (xs.take lo'):=by
    have e:xs=xs.take lo' ++xs.drop lo' :=(o8 _ _).symm
    rw [e]at hrc
    have:=(kI hrc).1
    rwa [show(xs.take lo').length=lo' from by simp;omega]at this
   have hcl:((cur.toList.take (lo' *r.sz)++(List.replicate (xs.length-lo') z).flatten++cur.toList.drop (lo' *r.sz+(List.replicate (xs.length-lo') z).flatten.length)).toArray).toList.take ((xs.take lo' ++List.replicate (xs.drop lo').length x).length*r.sz)=cells.take (lo' *r.sz)++(List.replicate (xs.length-lo') z).flatten:=by
    rw [hl2,<-g5,w8,tB (sJ _ (by omega))]
    have hlen1:(cur.toList.take (lo' *r.sz)++(List.replicate (xs.length-lo') z).flatten).length=xs.length*r.sz:=by
     rw [j6,hfl,wv,yH,tB (by omega)];exact hfit
    rw [<-hlen1,List.take_left]
   obtain⟨q1,q2,q3⟩:=iy (O:=O) st.sat (eg r T (some b) cap xs) (eg r T (some b) cap (xs.take lo' ++List.replicate (xs.drop lo').length x)) st.own (fun k=>⟨fun h=>(kP h).symm,fun h=>by rw [h];rfl⟩) (fun k=>⟨fun h=>(kP h).symm,fun h=>by rw [h];rfl⟩)
    (w' :=w.setRow b (cur.toList.take (lo' *r.sz)++(List.replicate (xs.length-lo') z).flatten++cur.toList.drop (lo' *r.sz+(List.replicate (xs.length-lo') z).flatten.length)).toArray) ⟨rfl,rfl,rfl,by simp [World.setRow],gP _⟩ (fun k hk=>setRow_other w b k _ hk)
    ⟨cells.take (lo' *r.sz)++(List.replicate (xs.length-lo') z).flatten,⟨_,hset,by rw [hl2];exact g2,g3,by simp only [CL,j6,wv,Ac,yH];omega,hcl⟩,by rw [hld];exact nI hsp (zi A S _),fun k hk=>by rw [<-kP hk];exact hno'⟩ hno'
   ·exact k _ _ S ⟨st.ext.step q1 (fun c hc=>hbase c (by rw [hc];rfl)),q2,q3,st.facts⟩
end

def lC{α:Type}(r:Rp α)(n:Nat):Rp (List α) where
 sz:=n*r.sz
 agg:=true
 rc:=fun S cs xs=>xs.length=n/\mL r S cs xs
 mono:=fun h ⟨H,J⟩=>⟨H,mv h J⟩
 len:=fun⟨H,J⟩=>by rw [gX J,H]
 one:=fun⟨_,J⟩=>ue J
 sc:=fun h=>by cases h
section
section
variable{ty:TypeId}
def kq{e:TypeId}{i:Int}(Y:E.P.underlying t=some (.array n e))(ti:TI E.P e sz bytes agg z)(hm:bx (lC r n) T b xs∈O)(A:ax E.N G x (tV (aj b 0)))(hi:ax E.N G ix (V (rI k) i))(hy:gI xs i=some y):
  bE E O G ⟨dst,.indexAddr t x ix,ty,pos,after,g⟩ (tV (aj b (i.toNat*sz))):=
 .of_pure fun a w S _ ho hf=>by
  have H:a.eval x=aj b 0:=A S a hf
  have h5:a.eval ix= .int k i:=dK.1 (hi S a hf)
  obtain⟨⟨_,c,_,h4,_⟩,_⟩:=ho.mem _ hm
  obtain⟨h0,hy'⟩:=fK hy
  have hlt:i.toNat<xs.length:=(mO.1 hy').1
  have hc:0<=i/\i<(n:Int):=⟨h0,by omega⟩
  refine⟨_,?_,rfl⟩
  simp [execOp,H,h5,aj,Instr.indexAt,asIntOf,mK Y,Instr.sureAddr,hc,ti.sizeOf,fc]
end
def I9{i:Int}(hy:gI xs i=some y){cs:List Value}(h:(lC r n).rc S cs xs):r.rc S ((cs.drop (i.toNat*r.sz)).take r.sz) y:=ug h.2 (fK hy).2
def xP{i:Int}{p:Operand}{ty:TypeId}(ti:TI E.P U sz bytes agg z)(hsz:r.sz=sz)(hag:r.agg=agg)(hm:bx (lC r n) T b xs∈O)(hy:gI xs i=some y)(hp:ax E.N G p (tV (aj b (i.toNat*r.sz)))):bE E O G ⟨dst,.load U p,ty,pos,after,g⟩ (V r y):=
 .of_pure fun a w S _ ho hf=>by
  have H:a.eval p=aj b (i.toNat*r.sz):=hp S a hf
  obtain⟨⟨_,cur,h5,h6⟩,_⟩:=ho.mem _ hm
  have h7:=I9 hy h6
  refine⟨_,?_,_,rfl,h7⟩
  simp [execOp,H,aj,Instr.loadAt,Instr.sureAddr,gy ti h5 hsz hag h7]
def Gw{v:α}{i:Int}{p:Operand}{ty:TypeId}(ti:TI E.P U sz bytes agg z)(hsz:r.sz=sz)(hy:gI xs i=some y)(hz:xs.set i.toNat v=zs)(hp:ax E.N G p (tV (aj b (i.toNat*r.sz))))(hv:ax E.N G x (V r v))(k:RG E ops ay rest (bx (lC r n) T b zs::O) G):RG E ops ay (⟨none,.store U p x,ty,pos,after,none⟩::rest) (bx (lC r n) T b xs::O) G:= .of rfl fun a w S st=>by
 subst hz
 have H:a.eval p=aj b (i.toNat*r.sz):=hp S a st.facts
 obtain⟨ds,J,h3⟩:=hv S a st.facts
 obtain⟨⟨hno,cur,h5,h6⟩,_⟩:=st.own.1
 obtain⟨h0,hy'⟩:=fK hy
 have hlt:i.toNat<xs.length:=(mO.1 hy').1
 have hl:=gX h6.2
 simp only [yH]at hl
 have hmul:i.toNat*r.sz+r.sz<=xs.length*r.sz:=by rw [<-Nat.succ_mul];exact sJ _ hlt
 obtain⟨w',hr,e1,e2,e3,e4,e5,e6⟩:=fj ti hsz h3 h5 (off:=i.toNat*r.sz) (by omega)
 have hrun:(execOp a.eval ⟨none,.store U p x,ty,pos,after,none⟩).run E.P w= .ok .skip w' :=by
  simp [execOp,H,J,Instr.storeAt,aj,Instr.sureAddr,hr]
 refine⟨fun c h=>(by cases h),?_⟩
 rw [hrun]
 obtain⟨g1,g2,g3⟩:=iy (O:=O) st.sat (bx (lC r n) T b xs) (bx (lC r n) T b (xs.set i.toNat v)) st.own (fun _=>ot) (fun _=>ot) ⟨e1,e2,e3,e4.1,e4.2⟩ e6 ⟨hno,_,e5,by rw [CI];exact h6.1,ud h3 h6.2 hlt⟩ hno
 exact k _ _ S ⟨st.ext.step g1 (fun c hc=>st.own.1.2 c hc),g2,g3,st.facts⟩
end
def sw{α:Type}{r:Rp α}{c:Value}{x:α}(h: ∀S,r.rc S [c] x)(S:SH): ∀n,mL r S (List.replicate n c) (List.replicate n x)
 |0=>rfl
 |n+1=>⟨[c],_,rfl,h S,sw h S n⟩
def Cr{c:Value}{x:α}(n:Nat)(h: ∀S,r.rc S [c] x): ∀S,(lC r n).rc S (List.replicate n c) (List.replicate n x):=fun S=>⟨List.length_replicate,sw h S n⟩
def Lz(n:Nat):Option Unit:=if n<=68719476736 then some ()else none
def zQ{x:α}(h:cB xs lo (xs.length:Int)=some ys)(hz:xs.take lo.toNat++List.replicate ys.length x=zs):zs.length=xs.length:=by
 obtain⟨l,m,rfl,hm,H,J,rfl⟩:=ea h
 have hm' :m=xs.length:=by omega
 subst hm'
 rw [<-hz]
 simp
 omega

def tC(n:FuncId)(cts:List Ty):Ty where
 p:=fun S v=> ∃cap:List Value,v= .func (.func n) #[] cap.toArray/\sn S cts cap
 mono:=fun h ⟨cap,e,k⟩=>⟨cap,e,sn.mono h k⟩
section
section
variable{ty:TypeId}
def Ho{fid:FuncId}{caps:List Operand}{cts:List Ty}(hcap:fM E.N G caps cts):bE E O G ⟨dst,.makeFunc (.func fid) #[] caps.toArray,ty,pos,after,g⟩ (tC fid cts):=
 .of_pure fun a w S _ _ hf=>⟨.func (.func fid) #[] (caps.map a.eval).toArray,by simp [execOp,Instr.makeFunc],_,rfl,hcap.tys hf⟩
end
def Gl{n:FuncId}{cts:List Ty}{ty:TypeId}{fo:Operand}{xs:List Operand}(O1 Or:List OE){t:OI->Ty}{O2:OI->List OE}(hO:O=O1++Or)(hc:af E.P n=true)(hs:dB E.P n (ts++cts) O1 t O2)(hf:ax E.N G fo (tC n cts))(A:fM E.N G xs ts)(hpost: ∀i,O2 i++Or=post i):
  EffOK E O G ⟨some ac,.call ⟨.value fo,xs.toArray,ats⟩,ty,pos,after,g⟩ post t:=fun a w S hsat ho hF D=>by
 subst hO
 obtain rfl:(fun i=>O2 i++Or)=post:=funext hpost
 obtain⟨cap,e,hcap⟩:=hf S a hF
 have hr:(execOp a.eval ⟨some ac,.call ⟨.value fo,xs.toArray,ats⟩,ty,pos,after,g⟩).run E.P w= .ok (.enter n ((xs.map a.eval).toArray++cap.toArray)) w:=by
  simp [execOp,resolve,e,Deferred.ofValue,invoke,fA hc]
 refine⟨fun c h=>(by cases h),?_⟩
 rw [hr]
 have e2:(xs.map a.eval).toArray++cap.toArray=((xs.map a.eval)++cap).toArray:=by simp
 rw [e2]
 exact(hs w S _ hsat ((A.tys hF).append hcap) (kM ho).1.weak).mono fun en w' ⟨i,v,S',he,hv,H,J,h3,h4⟩=>⟨_,he,v,S',i,rfl,H.more fun b ⟨f,hf,D⟩=>⟨f,CO _ hf,D⟩,J,cr.turn ho D H h3 h4,hv⟩
end

def F8{α:Type}(xs:List α)(lo:Int)(n:Nat)(i:Int):Option α:=if 0<=i/\i<(n:Int)then gI xs (lo+i)else none
def rF{i:Int}(h:F8 xs lo n i=some y):0<=i/\i<(n:Int)/\gI xs (lo+i)=some y:=by
 unfold F8 at h
 split at h
 ·rename_i hc;exact⟨hc.1,hc.2,h⟩
 ·cases h
def u5(h:cB xs lo hi=some ys):0<=lo:=by
 obtain⟨l,m,rfl,_,_,_,_⟩:=ea h
 omega
section
def lw(hm:gL mm r T l cap xs∈O)(hs:cB xs lo hi=some ys)(h:(l=none->ys.length=0)/\ys.length<=maxLen->RG E ops ay rest O G):RG E ops ay rest O G:=fun a w S st=>by
 refine h ?_ a w S st
 obtain⟨cells,H,_⟩:=(st.own.mem _ hm).1
 obtain⟨l',m,_,_,_,h8,rfl⟩:=ea hs
 have hlen:((xs.take m).drop l').length<=xs.length:=by simp;omega
 cases l with
 |none=>have:=H.1;exact⟨fun _=>by omega,by omega⟩
 |some b=>obtain⟨cur,_,g2,g3,_⟩:=H;exact⟨fun h=>(by cases h),by omega⟩
section
variable{ty:TypeId}
def EG{lo:Nat}{e:TypeId}(Y:E.P.underlying t=some (.slice e))(hv:l=none->n=0)(A:ax E.N G x (tV (jr sz l cap lo n))):
  bE E O G ⟨dst,.call ⟨.builtin .len,#[x],#[t]⟩,ty,pos,after,g⟩ (V (rI .i64) (n:Int)):=
 .of_pure fun a w S _ ho hf=>by
  have H:a.eval x=jr sz l cap lo n:=A S a hf
  obtain⟨ad,c,h3⟩: ∃ad c,jr sz l cap lo n= .slice ad n c:=by
   cases l with
   |none=>rw [hv rfl];exact⟨none,0,rfl⟩
   |some b=>exact⟨_,_,rfl⟩
  refine⟨.int .i64 n,?_,dK.2 rfl⟩
  simp [execOp,resolve,invoke,builtin,Builtin.len_,mK Y,H,h3,goInt]
def oZ{e:TypeId}{i:Int}(Y:E.P.underlying t=some (.slice e))(ti:TI E.P e sz bytes agg z)(hsz:r.sz=sz)(hm:gL mm r U l cap xs∈O)(hl0:0<=lo)(A:ax E.N G x (tV (jr sz l cap lo.toNat n)))(hi' :ax E.N G ix (V (rI k) i))(hy:F8 xs lo n i=some y):
  bE E O G ⟨dst,.indexAddr t x ix,ty,pos,after,g⟩ (tV (cv l ((lo+i).toNat*sz+0))):=
 .of_pure fun a w S _ ho hf=>by
  subst hsz
  have H:a.eval x=jr r.sz l cap lo.toNat n:=A S a hf
  have h3:a.eval ix= .int k i:=dK.1 (hi' S a hf)
  obtain⟨hi0,hin,hxi⟩:=rF hy
  obtain⟨_,hx'⟩:=fK hxi
  obtain⟨b,cur,rfl,_,hle,_⟩:=k8 (ho.mem _ hm).1 hx'
  have hlt2:(lo+i).toNat<xs.length:=(mO.1 hx').1
  have hne: ¬(cap=lo.toNat):=by omega
  refine⟨_,?_,rfl⟩
  have hc:0<=i/\i<(n:Int):=⟨hi0,hin⟩
  have e1:(lo+i).toNat=lo.toNat+i.toNat:=by omega
  simp [execOp,H,h3,jr,hne,Instr.indexAt,asIntOf,mK Y,hc,ti.sizeOf,fc,cv,aj,e1,rY]
end
end

section
variable{ty:TypeId}{l:List Oper}
end

def I4 [Inhabited α]{c b:Bool}{x:Option α}{k:α->Option β}{ac:Option β}{r:β}(h:c=true->(if b=true then x.bind k else ac)=some r): ∃y,((c&&b)=true->x=some y/\k y=some r)/\(c=true->b=false->ac=some r):=by
 cases c with
 |false=>exact⟨default,fun e=>(by cases e),fun e=>(by cases e)⟩
 |true=>
  obtain⟨y,H,J⟩:=og (h rfl)
  exact⟨y,fun e=>H e,fun _ e=>J e⟩
def gK{κ β:Type} [DecidableEq κ]:List (κ×β)->κ->Option β
 |[],_=>none
 |p::m,k=>if p.1=k then some p.2 else gK m k
def gN{κ β:Type} [DecidableEq κ]:List (κ×β)->κ->β->List (κ×β)
 |[],k,v=>[(k,v)]
 |p::m,k,v=>if p.1=k then(k,v)::m else p::gN m k v
def sG{κ:Type}(P:Program)(kt:TypeId)(kv:κ->Value):Prop:= ∃ac,P.underlying kt=some ac/\(∀a,MapKept.IsKey ac (kv a))/\ ∀a b,kv a=kv b->a=b
def O6(k:IntKind)(n:Int):Value:= .int k n
def cR(s:dN):Value:= .string ⟨s.toArray⟩
variable{kt:TypeId}
def pI(h:P.underlying kt=some (.int k)):sG P kt (O6 k):=⟨_,h,fun _=>rfl,fun a b e=>by injection e⟩
def uo(h:P.underlying kt=some .string):sG P kt cR:=⟨_,h,fun _=>trivial,fun a b e=>by
 injection e with e
 injection e with e
 simpa using congrArg Array.toList e⟩
structure MV(β:Type) where
 p:World->SH->β->Option Nat×Nat->Value->Prop
 here: ∀{w S y o v},p w S y o v-> ∀j,o.1=some j->j<w.heap.size
 kept: ∀{C w w' S S' y o v},p w S y o v->gj C w S w' S' ->(∀j,o.1=some j-> ¬C j)->p w' S' y o v
def AJ{β:Type}(ty:β->Ty):MV β where
 p:=fun _ S y o v=>o.1=none/\(ty y).p S v
 here:=fun h j hj=>by rw [h.1]at hj;cases hj
 kept:=fun h k _=>⟨h.1,(ty _).mono k.keep h.2⟩
def KC{α:Type}(r:Rp α)(T:TypeId):MV (List α) where
 p:=fun w S xs o v=>v=M o.1 o.2 xs.length/\sm true r T o.1 o.2 xs w S
 here:=fun{w S y o v} h j hj=>(gL true r T o.1 o.2 y).here h.2 j hj
 kept:=fun{C w w' S S' y o v} h k hC=>⟨h.1,(gL true r T o.1 o.2 y).kept h.2 k hC⟩
section
variable{κ:Type} [DecidableEq κ]{tD:MV β}{kv:κ->Value}{ac:TypeDesc}{k:κ}
def qv(tD:MV β)(kv:κ->Value)(w:World)(S:SH)(h:Option κ):List MapEntry->List (Option Nat×Nat)->List (κ×β)->Prop
 |[],[],[]=>True
 |e::es,o::os,q::m=>e.key=kv q.1/\(if h=some q.1 then o.1=none else tD.p w S q.2 o e.val)/\(∀o' ∈os,∀j,o.1=some j->o'.1≠some j)/\(∀p∈m,p.1≠q.1)/\qv tD kv w S h es os m
 |_,_,_=>False
def zN{h:Option κ}: ∀{es:List MapEntry} {os:List (Option Nat×Nat)} {m:List (κ×β)},qv tD kv w S h es os m-> ∀o∈os,∀j,o.1=some j->j<w.heap.size
 |[],[],[],_,o,ho,_,_=>by cases ho
 |e::es,o::os,q::m,⟨_,J,_,_,h5⟩,o',ho,j,hj=>by
  rcases mJ.1 ho with rfl|ho
  ·split at J
   ·rw [J]at hj;cases hj
   ·exact tD.here J j hj
  ·exact zN h5 o' ho j hj
def uE{C:Nat->Prop}(k:gj C w S w' S'){h:Option κ}: ∀{es:List MapEntry} {os:List (Option Nat×Nat)} {m:List (κ×β)},qv tD kv w S h es os m->(∀o∈os,∀j,o.1=some j-> ¬C j)->qv tD kv w' S' h es os m
 |[],[],[],_,_=>trivial
 |e::es,o::os,q::m,⟨H,J,h3,h4,h5⟩,hC=>⟨H,by
  split
  ·rename_i hh;rw [fE hh]at J;exact J
  ·rename_i hh;rw [cS hh]at J;exact tD.kept J k (hC o (oh ..)),h3,h4,uE k h5 fun o' ho=>hC o' (oj _ ho)⟩
def wk{h:Option κ}: ∀{es:List MapEntry} {os:List (Option Nat×Nat)} {m:List (κ×β)},qv tD kv w S h es os m->(∀p∈m,h≠some p.1)->qv tD kv w S none es os m
 |[],[],[],_,_=>trivial
 |e::es,o::os,q::m,⟨H,J,h3,h4,h5⟩,hk=>⟨H,by
  rw [cS (hk q (oh ..))]at J
  rw [cS (by simp)];exact J,h3,h4,wk h5 fun p hp=>hk p (oj _ hp)⟩
def na(hd: ∀a,MapKept.IsKey ac (kv a))(hi: ∀a b,kv a=kv b->a=b)(a b:κ):Instr.sameNow ac (kv a) (kv b)=some (decide (a=b)):=by
 obtain⟨r,H,J⟩:=MapKept.sameNow_of_keys (hd a) (hd b)
 rw [H]
 by_cases h:a=b
 ·subst h;rw [J.2 rfl];simp
 ·rw [ol h]
  cases r with
  |false=>rfl
  |true=>exact absurd (hi _ _ (J.1 rfl)) h
def kF(hd: ∀a,MapKept.IsKey ac (kv a))(hi: ∀a b,kv a=kv b->a=b): ∀{es:List MapEntry} {os:List (Option Nat×Nat)} {m:List (κ×β)} (i:Nat),qv tD kv w S none es os m->
  ∃os',(∀x∈os',x∈os\/x.1=none)/\qv tD kv w S (some k) es os' m/\
   ((gK m k=none/\Instr.findNow ac (kv k) es i=some none)\/ ∃(y:β) (o:Option Nat×Nat) (e:MapEntry) (j:Nat),gK m k=some y/\o∈os/\tD.p w S y o e.val/\Instr.findNow ac (kv k) es i=some (some (j,e.val))/\ ∀x∈os',∀q,o.1=some q->x.1≠some q)
 |[],[],[],i,_=>⟨[],fun x A=>(by cases A),trivial,.inl ⟨rfl,rfl⟩⟩
 |e::es,o::os,q::m,i,⟨H,J,h3,h4,h5⟩=>by
  rw [cS (by simp)]at J
  by_cases hk:q.1=k
  ·refine⟨(none,0)::os,fun x A=>?_,⟨H,by rw [fE (by rw [hk])],fun _ _ _ hj=>(by cases hj),h4,?_⟩,.inr ⟨q.2,o,e,i,by unfold gK;rw [fE hk],oh ..,J,?_,fun x A j hj=>?_⟩⟩
   ·rcases mJ.1 A with rfl|A
    ·exact .inr rfl
    ·exact .inl (oj _ A)
   ·have: ∀{es:List MapEntry} {os:List (Option Nat×Nat)} {m:List (κ×β)},qv tD kv w S none es os m->(∀p∈m,p.1≠k)->qv tD kv w S (some k) es os m:=by
     intro es
     induction es with
     |nil=>intro os m h _;cases os<;>cases m<;>first|trivial|exact h.elim
     |cons e es ih=>
      intro os m h hm
      cases os with
      |nil=>cases m<;>exact h.elim
      |cons o os=>
       cases m with
       |nil=>exact h.elim
       |cons q m=>
        obtain⟨g1,g2,g3,g4,g5⟩:=h
        rw [cS (by simp)]at g2
        exact⟨g1,by rw [cS (fun e=>hm q (oh ..) (kP e).symm)];exact g2,g3,g4,ih g5 fun p hp=>hm p (oj _ hp)⟩
    exact this h5 (fun p hp=>by rw [<-hk];exact h4 p hp)
   ·unfold Instr.findNow
    rw [H,na hd hi,hk,mN rfl]
   ·rcases mJ.1 A with rfl|A
    ·exact fun e=>by cases e
    ·exact h3 x A j hj
  ·obtain⟨os',g1,g2,g3⟩:=kF hd hi (i+1) h5
   refine⟨o::os',fun x A=>?_,⟨H,by rw [cS (fun e=>hk (kP e).symm)];exact J,fun o' ho' j hj=>?_,h4,g2⟩,?_⟩
   ·rcases mJ.1 A with rfl|A
    ·exact .inl (oh ..)
    ·exact(g1 x A).imp (oj _) id
   ·rcases g1 o' ho' with h|h
    ·exact h3 o' h j hj
    ·rw [h];exact fun e=>by cases e
   ·have hf:Instr.findNow ac (kv k) (e::es) i=Instr.findNow ac (kv k) es (i+1):=by
     conv=>lhs;unfold Instr.findNow
     rw [H,na hd hi,ol (fun e=>hk e.symm)]
    have hm:gK (q::m) k=gK m k:=by conv=>lhs;unfold gK;rw [cS hk]
    rw [hf,hm]
    refine g3.imp id fun⟨y,o1,e1,j,f1,f2,f3,f4,f5⟩=>⟨y,o1,e1,j,f1,oj _ f2,f3,f4,fun x A q hq=>?_⟩
    rcases mJ.1 A with rfl|A
    ·exact fun e=>h3 o1 f2 q e hq
    ·exact f5 x A q hq
def v8(x:α)(xs:List α)(j:Nat)(f:α->α):(x::xs).modify (j+1) f=x::xs.modify j f:=by simp [List.modify_succ_cons]
def zO(hd: ∀a,MapKept.IsKey ac (kv a))(hi: ∀a b,kv a=kv b->a=b){y:β}{o:Option Nat×Nat}{v:Value}{born:Nat}(hv:tD.p w S y o v): ∀{es:List MapEntry} {os:List (Option Nat×Nat)} {m:List (κ×β)} (i:Nat),qv tD kv w S (some k) es os m->(∀o' ∈os,∀j,o.1=some j->o'.1≠some j)->
    ∃os',(∀x∈os',x∈os\/x=o)/\
      ((∃(j:Nat) (e:MapEntry),Instr.findNow ac (kv k) es i=some (some (i+j,e.val))/\es[j]? =some e/\e.key=kv k/\qv tD kv w S none (es.modify j fun e=>{e with key:=kv k,val:=v}) os' (gN m k y))\/
        (Instr.findNow ac (kv k) es i=some none/\qv tD kv w S none (es++[⟨kv k,v,born⟩]) os' (gN m k y)))
  |[],[],[],i,_,_=>⟨[o],fun x A=> .inr (List.mem_singleton.1 A),.inr ⟨rfl,⟨rfl,by rw [cS (by simp)];exact hv,fun _ h=>(by cases h),fun _ h=>(by cases h),trivial⟩⟩⟩
  |e::es,o1::os,q::m,i,⟨H,J,h3,h4,h5⟩,ha=>by
    by_cases hk:q.1=k
    · refine⟨o::os,fun x A=>?_,.inl ⟨0,e,?_,rfl,by rw [H,hk],?_⟩⟩
      · rcases mJ.1 A with rfl|A
        · exact .inr rfl
        · exact .inl (oj _ A)
      · unfold Instr.findNow
        rw [H,na hd hi,hk,mN rfl]
        rfl
      · unfold gN
        rw [fE hk,List.modify_zero_cons]
        exact⟨rfl,by rw [cS (by simp)];exact hv,fun o' ho' =>ha o' (oj _ ho'),fun p hp=>by rw [<-hk];exact h4 p hp,
          wk h5 fun p hp e=>h4 p hp (by rw [hk];exact(kP e).symm)⟩
    · obtain⟨os',g1,g2⟩:=zO hd hi (born:=born) hv (i+1) h5 fun o' ho' =>ha o' (oj _ ho')
      rw [cS (fun e=>hk (kP e).symm)]at J
      have hf:Instr.findNow ac (kv k) (e::es) i=Instr.findNow ac (kv k) es (i+1):=by
        conv=>lhs;unfold Instr.findNow
        rw [H,na hd hi,ol (fun e=>hk e.symm)]
      have hm:gN (q::m) k y=q::gN m k y:=by conv=>lhs;unfold gN;rw [cS hk]
      have hap: ∀o' ∈os',∀j,o1.1=some j->o'.1≠some j:=fun o' ho' j hj=>by
        rcases g1 o' ho' with h|rfl
        · exact h3 o' h j hj
        · exact fun e=>ha o1 (oh ..) j e hj
      have hne: ∀p∈gN m k y,p.1≠q.1:=by
        have: ∀m:List (κ×β),(∀p∈m,p.1≠q.1)-> ∀p∈gN m k y,p.1≠q.1:=by
          intro m
          induction m with
          |nil=>intro _ p hp;rw [List.mem_singleton.1 hp];exact fun e=>hk e.symm
          |cons p0 m ih=>
            intro hm p hp
            unfold gN at hp
            split at hp
            · rcases mJ.1 hp with rfl|hp
              · exact fun e=>hk e.symm
              · exact hm p (oj _ hp)
            · rcases mJ.1 hp with rfl|hp
              · exact hm _ (oh ..)
              · exact ih (fun p hp=>hm p (oj _ hp)) p hp
        exact this m h4
      rw [hf,hm]
      refine⟨o1::os',fun x A=>?_,g2.imp (fun⟨j,e',f1,f2,f3,f4⟩=>⟨j+1,e',by rw [f1];congr 3;omega,by simpa using f2,f3,?_⟩) fun⟨f1,f2⟩=>⟨f1,?_⟩⟩
      · rcases mJ.1 A with rfl|A
        · exact .inl (oh ..)
        · exact(g1 x A).imp (oj _) id
      · rw [v8]
        exact⟨H,by rw [cS (by simp)];exact J,hap,hne,f4⟩
      · exact⟨H,by rw [cS (by simp)];exact J,hap,hne,f2⟩
def zM{h:Option κ}: ∀{es:List MapEntry} {os:List (Option Nat×Nat)} {m:List (κ×β)},qv tD kv w S h es os m-> ∀x∈es,∃q∈m,x.key=kv q.1
 |[],[],[],_,x,A=>by cases A
 |e::es,o::os,q::m,⟨H,_,_,_,h5⟩,x,A=>by
  rcases mJ.1 A with rfl|A
  ·exact⟨q,oh ..,H⟩
  ·obtain⟨q',g1,g2⟩:=zM h5 x A
   exact⟨q',oj _ g1,g2⟩
def Gc(hd: ∀a,MapKept.IsKey ac (kv a)){h:Option κ}{es:List MapEntry}{os:List (Option Nat×Nat)}{m:List (κ×β)}(h4:qv tD kv w S h es os m)(g1:Instr.findNow ac (kv k) es i=some none){x:MapEntry}(A:x∈es):x.key≠kv k:=by
 rcases MapKept.findNow_spec (hd k) es i (fun y hy=>by obtain⟨q,_,e⟩:=zM h4 y hy;rw [e];exact hd _)with⟨_,J⟩|⟨j,e,J,_⟩
 ·exact J x A
 ·rw [g1]at J;cases J
def bj(tD:MV β)(kv:κ->Value)(b:Nat)(h:Option κ)(os:List (Option Nat×Nat))(m:List (κ×β)):OE where
 fp:=fun j=>j=b\/ ∃o∈os,o.1=some j
 p:=fun w S=>S b=none/\(∀o∈os,o.1≠some b)/\ ∃es clock,w.heap[b]? =some (.map es clock)/\qv tD kv w S h es.toList os m/\MapKept.Stamped es clock
 here:=by
  intro w S ⟨_,_,es,clock,h3,h4,_⟩ j hj
  rcases hj with rfl|⟨o,ho,hj⟩
  ·exact(sL.1 h3).1
  ·exact zN h4 o ho j hj
 kept:=by
  intro C w w' S S' ⟨H,J,es,clock,h3,h4,hst⟩ k hC
  have hlt:=(sL.1 h3).1
  exact⟨by rw [k.old b hlt (hC b (.inl rfl))];exact H,J,es,clock,by rw [k.heap b hlt (hC b (.inl rfl))];exact h3,uE k h4 (fun o ho j hj=>hC j (.inr ⟨o,ho,hj⟩)),hst⟩
def ak(b:Nat):Value:= .map (some b)
end
variable{r' :Rp γ}
section
variable{κ:Type} [DecidableEq κ]{tD:MV β}{kv:κ->Value}{os:List (Option Nat×Nat)}{m:List (κ×β)}{k:κ}{et:TypeId}{i v:Operand}{dst:Option Nat}{ty:TypeId}
def qq(N:Fr)(G:io)(x:Operand)(u:Value):Prop:= ∀S a,cH N S a G->a.eval x=u
def Dx{N:Fr}{q:IntKind}{n:Int}(h:ax N G x (V (rI q) n)):qq N G x (O6 q n):=fun S a hf=>dK.1 (h S a hf)
def Hu{N:Fr}{n:dN}(h:ax N G x (V rS n)):qq N G x (cR n):=fun S a hf=>mS.1 (h S a hf)
def ZV(P:Program)(T:TypeId)(z:Value):Prop:=(P.info? T).bind (·.zero)=some z
def ZV.run{z:Value}(h:ZV P T z)(w:World):(zeroValue T).run P w= .ok z w:=by
 unfold ZV at h
 cases hi:P.info? T with
 |none=>rw [hi]at h;cases h
 |some i=>
  rw [hi]at h
  have h' :i.zero=some z:=h
  simp [zeroValue,typeInfo,hi,h']
def tk(tD:MV β)(kv:κ->Value)(hd:Nat.blt ac E.N.n=true)(k: ∀b,RG E ops ay rest (bj tD kv b none [] []::O) ((ac,tV (ak b))::G)):
  RG E ops ay (⟨some ac,.makeMap t none,ty,pos,after,none⟩::rest) O G:= .of rfl fun a w S st=>by
 obtain⟨he,hs',hno⟩:=gr (w:=w) (.map #[] 0) st.sat
 have hrun:(execOp a.eval ⟨some ac,.makeMap t none,ty,pos,after,none⟩).run E.P w= .ok (.value (ak w.heap.size)) (w.alloc (.map #[] 0)):=by
  simp [execOp,Instr.makeMap,ak]
 refine⟨fun c h=>(by cases h),?_⟩
 rw [hrun]
 exact k w.heap.size _ _ S ⟨st.ext.step0 he,hs',nd st.own he ⟨hno,fun _ h=>(by cases h),#[],0,yE w _,trivial,MapKept.stamped_empty 0⟩ (fun b D=>by
  rcases D with rfl|⟨_,h,_⟩
  ·exact gP _
  ·cases h) st.base_le,st.facts.put hd rfl⟩
def gp{kk:Value}{es:Array MapEntry}{clock:Nat}{q:TypeDesc}{z:Value}{u:Option (Nat×Value)}(hm:P.underlying t=some (.map kt et))(hq:P.underlying kt=some q)(hk:MapKept.IsKey q kk)(D:w.heap[b]? =some (.map es clock))(hz:ZV P et z)(hf:Instr.findNow q kk es.toList 0=some u)(c:Bool):(Instr.lookup t (ak b) kk c).run P w= .ok (if c then .tuple #[(u.map (·.2)).getD z,.bool u.isSome]else(u.map (·.2)).getD z) w:=by
 cases u with
 |none=>simp [Instr.lookup,ak,mK hm,Bp D,Eg hq hk,MapKept.run_findKey hq hf,hz.run,Result.andThen]
 |some r=>simp [Instr.lookup,ak,mK hm,Bp D,Eg hq hk,MapKept.run_findKey hq hf,Result.andThen]
def Dq{γ:β->Ty}{z:β}{zv:Value}(hm:E.P.underlying t=some (.map kt et))(hk:sG E.P kt kv)(hz:ZV E.P et zv)(hzt: ∀S,(γ z).p S zv)(hmem:bj (AJ γ) kv b none os m∈O)(A:ax E.N G x (tV (ak b)))(hi:qq E.N G i (kv k)):
  bE E O G ⟨dst,.lookup t x i false,ty,pos,after,g⟩ (γ ((gK m k).getD z)):= .of_pure fun a w S hs ho hf=>by
 obtain⟨⟨_,_,es,clock,h3,h4,_⟩,_⟩:=cr.mem ho _ hmem
 obtain⟨q,hq,hd,hinj⟩:=hk
 have H:a.eval x=ak b:=A S a hf
 have J:a.eval i=kv k:=hi S a hf
 obtain⟨_,_,_,h5⟩:=kF hd hinj (k:=k) 0 h4
 rcases h5 with⟨g1,g2⟩|⟨y,o,e,j,g1,g2,g3,g4,g5⟩
 ·refine⟨zv,by simp [execOp,H,J,gp hm hq (hd k) h3 hz g2],by rw [g1];exact hzt S⟩
 ·refine⟨e.val,by simp [execOp,H,J,gp hm hq (hd k) h3 hz g4],by rw [g1];exact g3.2⟩
def Dr{m:List (κ×List α)}(hm:E.P.underlying t=some (.map kt et))(hk:sG E.P kt kv)(hz:ZV E.P et (.slice none 0 0))(hmem:bj (KC r T) kv b none os m∈O)(A:ax E.N G x (tV (ak b)))(hi:qq E.N G i (kv k)):
  bE E O G ⟨dst,.lookup t x i false,ty,pos,after,g⟩ (V (dz r) ((gK m k).getD [])):= .of_pure fun a w S hs ho hf=>by
 obtain⟨⟨_,_,es,clock,h3,h4,_⟩,_⟩:=cr.mem ho _ hmem
 obtain⟨q,hq,hd,hinj⟩:=hk
 have H:a.eval x=ak b:=A S a hf
 have J:a.eval i=kv k:=hi S a hf
 obtain⟨_,_,_,h5⟩:=kF hd hinj (k:=k) 0 h4
 rcases h5 with⟨g1,g2⟩|⟨y,o,e,j,g1,g2,g3,g4,g5⟩
 ·refine⟨.slice none 0 0,by simp [execOp,H,J,gp hm hq (hd k) h3 hz g2],by rw [g1];exact tQ⟩
 ·refine⟨e.val,by simp [execOp,H,J,gp hm hq (hd k) h3 hz g4],by rw [g1,g3.1];exact ir g3.2⟩
def ve{kk:Value}{es:Array MapEntry}{clock:Nat}{q:TypeDesc}{val:Value}(hm:P.underlying t=some (.map kt et))(hq:P.underlying kt=some q)(hk:MapKept.IsKey q kk)(D:w.heap[b]? =some (.map es clock)):
  (Instr.findNow q kk es.toList 0=some none->(Instr.mapUpdate t (ak b) kk val).run P w= .ok () {w with heap:=w.heap.setIfInBounds b (.map (es.push ⟨kk,val,clock⟩) (clock+1))})/\
  (∀j e,Instr.findNow q kk es.toList 0=some (some (j,e))->(∀e',es.toList[j]? =some e' ->e'.key=kk)->(∃e',es.toList[j]? =some e')->(Instr.mapUpdate t (ak b) kk val).run P w= .ok () {w with heap:=w.heap.setIfInBounds b (.map (es.modify j fun e=>{e with key:=kk,val:=val}) clock)}):=by
 refine⟨fun hf=>?_,fun j e hf hj he=>?_⟩
 ·simp [Instr.mapUpdate,ak,mK hm,Bp D,Eg hq hk,MapKept.run_findKey hq hf,El _ D,Result.andThen]
 ·obtain⟨e',he'⟩:=he
  have H:=hj e' he'
  have J:es[j]? =some e' :=by simpa using he'
  simp [Instr.mapUpdate,ak,mK hm,Bp D,Eg hq hk,MapKept.run_findKey hq hf,El _ D,Result.andThen,J,H,MapKept.run_keyThatStays hk]
def vl{y:β}{o:Option Nat×Nat}{val:Value}(hs:hY w S)(hm:E.P.underlying t=some (.map kt et))(hk:sG E.P kt kv)(hp:(bj tD kv b (some k) os m).p w S)(hv:tD.p w S y o val)(hob:o.1≠some b)(hap: ∀o' ∈os,∀j,o.1=some j->o'.1≠some j):
  ∃w' os',(Instr.mapUpdate t (ak b) (kv k) val).run E.P w= .ok () w' /\gj (fun j=>j=b) w S w' S/\hY w' S/\(bj tD kv b none os' (gN m k y)).p w' S/\(∀j,(bj tD kv b none os' (gN m k y)).fp j->(bj tD kv b (some k) os m).fp j\/o.1=some j):=by
 obtain⟨hno,hnb,es,clock,h3,h4,hst⟩:=hp
 obtain⟨q,hq,hdk,hinj⟩:=hk
 obtain⟨os',p1,p2⟩:=zO hdk hinj (born:=clock) hv 0 h4 hap
 have hnb' : ∀o' ∈os',o'.1≠some b:=fun o' ho' =>by
  rcases p1 o' ho' with h|rfl
  ·exact hnb o' h
  ·exact hob
 have hfp: ∀j,(j=b\/ ∃o∈os',o.1=some j)->(j=b\/ ∃o∈os,o.1=some j)\/o.1=some j:=fun j hj=>by
  rcases hj with h|⟨o',ho',e⟩
  ·exact .inl (.inl h)
  ·rcases p1 o' ho' with h|rfl
   ·exact .inl (.inr ⟨o',h,e⟩)
   ·exact .inr e
 have hw: ∀X:Obj,gj (fun j=>j=b) w S {w with heap:=w.heap.setIfInBounds b X} S/\hY {w with heap:=w.heap.setIfInBounds b X} S/\({w with heap:=w.heap.setIfInBounds b X}:World).heap[b]? =some X:=fun X=>
  ⟨⟨rfl,rfl,rfl,gP _,by simp,fun j _ hj=>(MapKept.heap_set (o' :=X) h3).2 j hj,SH.le_refl _,fun _ _ _=>rfl⟩,hs.same fun j o hj=>(MapKept.heap_set (o' :=X) h3).2 j (fun e=>by subst e;rw [hno]at hj;cases hj),(MapKept.heap_set h3).1⟩
 obtain⟨r1,r2⟩:=ve (val:=val) hm hq (hdk k) h3
 rcases p2 with⟨j,e,g1,g2,g3,g4⟩|⟨g1,g2⟩
 ·rw [qr]at g1
  obtain⟨x1,x2,x3⟩:=hw (.map (es.modify j fun e=>{e with key:=kv k,val:=val}) clock)
  refine⟨_,os',r2 j _ g1 (fun e' he' =>by rw [g2]at he';cases he';exact g3) ⟨_,g2⟩,x1,x2,⟨hno,hnb',_,_,x3,?_,MapKept.stamped_modify hst j _ (fun _ _=>rfl) (fun e' _ he' =>by rw [<-Ek,g2]at he';cases he';exact g3.symm)⟩,hfp⟩;refine uE x1 (by rw [Array.toList_modify];exact g4) fun o' ho' j hj e=>?_
  subst e
  exact hnb' o' ho' hj
 ·obtain⟨x1,x2,x3⟩:=hw (.map (es.push ⟨kv k,val,clock⟩) (clock+1))
  refine⟨_,os',r1 g1,x1,x2,⟨hno,hnb',_,_,x3,?_,MapKept.stamped_push hst (fun x A e=>?_)⟩,hfp⟩
  rotate_left
  ·exact Gc hdk h4 g1 A e
  refine uE x1 (by rw [Array.toList_push];exact g2) fun o' ho' j hj e=>?_
  subst e
  exact hnb' o' ho' hj
def Kk{γ:β->Ty}{y:β}(hm:E.P.underlying t=some (.map kt et))(hk:sG E.P kt kv)(A:ax E.N G x (tV (ak b)))(hi:qq E.N G i (kv k))(hv:ax E.N G v (γ y))
  (h: ∀os',RG E ops ay rest (bj (AJ γ) kv b none os' (gN m k y)::O) G):
  RG E ops ay (⟨none,.mapUpdate t x i v,ty,pos,after,none⟩::rest) (bj (AJ γ) kv b none os m::O) G:= .of rfl fun a w S st=>by
 have H:a.eval x=ak b:=A S a st.facts
 have J:a.eval i=kv k:=hi S a st.facts
 have h3:(γ y).p S (a.eval v):=hv S a st.facts
 obtain⟨⟨hp,hfp⟩,hap,hO⟩:=st.own
 obtain⟨hno,hnb,es,clock,e3,e4,hst⟩:=hp
 obtain⟨q,hq,hdk,hinj⟩:=hk
 obtain⟨os1,p1,p2,_⟩:=kF hdk hinj (k:=k) 0 e4
 have hnb1: ∀o∈os1,o.1≠some b:=fun o ho=>by
  rcases p1 o ho with h|h
  ·exact hnb o h
  ·rw [h];exact fun e=>by cases e
 obtain⟨w',os',r,x1,x2,x3,x4⟩:=vl (tD:=AJ γ) (E:=E) (y:=y) (o:=(none,0)) (val:=a.eval v) st.sat hm ⟨q,hq,hdk,hinj⟩ ⟨hno,hnb1,es,clock,e3,p2,hst⟩ ⟨rfl,h3⟩ (fun e=>by cases e) (fun _ _ _ e=>by cases e)
 have hrun:(execOp a.eval ⟨none,.mapUpdate t x i v,ty,pos,after,none⟩).run E.P w= .ok .skip w' :=by simp [execOp,H,J,r]
 refine⟨fun c h=>(by cases h),?_⟩
 rw [hrun]
 have hfp' : ∀j,(bj (AJ γ) kv b none os' (gN m k y)).fp j->(bj (AJ γ) kv b none os m).fp j:=fun j hj=>by
  rcases x4 j hj with(h|⟨o,ho,e⟩)|e
  ·exact .inl h
  ·rcases p1 o ho with h|h
   ·exact .inr ⟨o,h,e⟩
   ·rw [h]at e;cases e
  ·cases e
 exact h os' _ _ S ⟨st.ext.step x1 (fun c hc=>hfp c (.inl hc)),x2,⟨⟨x3,fun j hj=>hfp j (hfp' j hj)⟩,fun f hf j hj=>hap f hf j (hfp' j hj),hO.ext x1 fun f hf j hj hjb=>hap f hf j (.inl hjb) hj⟩,st.facts⟩
def Kl{c:Nat}{m:List (κ×List α)}(hm:E.P.underlying t=some (.map kt et))(hk:sG E.P kt kv)(A:ax E.N G x (tV (ak b)))(hi:qq E.N G i (kv k))(hv:ax E.N G v (tO r l c xs))(h: ∀os',RG E ops ay rest (bj (KC r T) kv b none os' (gN m k xs)::O) G):
  RG E ops ay (⟨none,.mapUpdate t x i v,ty,pos,after,none⟩::rest) (Z r T l c xs::bj (KC r T) kv b (some k) os m::O) G:= .of rfl fun a w S st=>by
 have H:a.eval x=ak b:=A S a st.facts
 have J:a.eval i=kv k:=hi S a st.facts
 have h3:a.eval v=M l c xs.length:=sQ hv S a st.facts
 obtain⟨⟨Y,htf⟩,hta,⟨hp,hfp⟩,hap,hO⟩:=st.own
 have hmm:=hta _ (oh ..)
 obtain⟨w',os',r',x1,x2,x3,x4⟩:=vl (tD:=KC r T) (E:=E) (y:=xs) (o:=(l,c)) (val:=a.eval v) st.sat hm hk hp ⟨h3,Y⟩ (fun e=>hmm b e (.inl rfl)) (fun o' ho' j hj e=>hmm j hj (.inr ⟨o',ho',e⟩))
 have hrun:(execOp a.eval ⟨none,.mapUpdate t x i v,ty,pos,after,none⟩).run E.P w= .ok .skip w' :=by simp [execOp,H,J,r']
 refine⟨fun c h=>(by cases h),?_⟩
 rw [hrun]
 exact h os' _ _ S ⟨st.ext.step x1 (fun c hc=>hfp c (.inl hc)),x2,⟨⟨x3,fun j hj=>(x4 j hj).elim (hfp j) (htf j)⟩,fun f hf j hj=>(x4 j hj).elim (hap f hf j) (fun e=>hta f (oj _ hf) j e),hO.ext x1 fun f hf j hj hjb=>hap f hf j (.inl hjb) hj⟩,st.facts⟩
end

def sZ(tmps:Array Value):ResultVar->Sem Value
 | .tmp t=>pure (tmps.getD t undef)
 | .cell a t=>do loadVar t (<-asAddr (tmps.getD a undef))
def Iq(P:Program)(N:Fr)(G:io)(rv:ResultVar)(t:Ty):Prop:= ∀a w S,hY w S->cH N S a G-> ∃v,(sZ a.tmps rv).run P w= .ok v w/\t.p S v
def co{N:Fr}{k:Nat}{t:Ty}(hk:look G k=some t):Iq P N G (.tmp k) t:=fun a w S _ hf=>⟨_,rfl,hf.at_ k t hk⟩
def dY{N:Fr}{k:Nat}{x:α}(ti:TI P T sz bytes agg z)(hsz:r.sz=sz)(hag:r.agg=agg)(hk:look G k=some (bb r x)):Iq P N G (.cell k T) (V r x):=fun a w S hs hf=>by
 obtain⟨b,off,c,U,fr,H,J,h3⟩:=hf.at_ k _ hk
 obtain⟨c',h4,h5⟩:=hs.part J (r.len h3)
 rw [<-h5]at h3
 have hl:=gy ti h4 hsz hag h3
 have h1' :a.tmps[k]?.getD undef=Value.pointer (some ⟨b,off,none⟩):=by simpa [Bq] using H
 exact⟨_,by simp [sZ,h1',asAddr,hl],_,rfl,h3⟩
def Gv(P:Program)(N:Fr)(G:io):List ResultVar->List Ty->Prop
 |[],[]=>True
 |rv::rvs,t::ts=>Iq P N G rv t/\Gv P N G rvs ts
 |_,_=>False
def Gv.run{N:Fr}(hs:hY w S)(hf:cH N S a G): ∀{rvs:List ResultVar} {ts:List Ty},Gv P N G rvs ts-> ∃vs,(rvs.mapM (sZ a.tmps)).run P w= .ok vs w/\sn S ts vs/\vs.length=rvs.length
 |[],[],_=>⟨[],rfl,trivial,rfl⟩
 |rv::rvs,t::ts,⟨H,J⟩=>by
  obtain⟨v,g1,g2⟩:=H a w S hs hf
  obtain⟨vs,k1,k2,k3⟩:=Gv.run hs hf J
  exact⟨v::vs,by simp [List.mapM_cons,g1,k1,Result.andThen],⟨g2,k2⟩,by simp [k3]⟩
def j3{rvs:List ResultVar}(hr:fn.results=rvs.toArray)(H:Nat.beq rvs.length 1=false)(h:Gv P ⟨N,[]⟩ G rvs ts):
  AT ⟨P,⟨N,[]⟩,B,w0,S0,none⟩ (bodyPost P fn (Cl ⟨P,⟨N,[]⟩,B,w0,S0,none⟩ (tT ts))) .ret O G:=fun a w S st=>by
 obtain⟨vs,k1,k2,k3⟩:=h.run st.sat st.facts
 have hne: ¬vs.length=1:=by rw [k3];intro e;rw [e]at H;cases H
 refine⟨st.facts.defers,.tuple vs.toArray,?_,_,S,rfl,st.ext,st.sat,vs,rfl,k2⟩
 have e1:(fn.results.mapM (sZ a.tmps)).run P w= .ok vs.toArray w:=by
  rw [hr,List.mapM_toArray,Sem.run_map,k1]
  rfl
 have e3:results fn a.tmps=((fn.results.mapM (sZ a.tmps))>>=fun vs=>pure (if h:vs.size=1 then vs[0]else .tuple vs)):=rfl
 rw [e3,mi,e1]
 simp [Result.andThen,hne]

def G9{v:Value}(h:(V (dz r) xs).p S v):(dz r).rc S [v] xs:=by
 obtain⟨cs,e,J⟩:=h
 obtain⟨a,cap,e2,h3⟩:=J
 subst e2
 rw [e]
 exact⟨a,cap,rfl,h3⟩
section
variable{ty:TypeId}
def fR{r:Rp β}{get:β->Value}{x:β}{p:Operand}(ti:TI E.P U 1 bytes false z)(hget:fW r off rV get)(hm:bx r T b x∈O)(hv:get x=M l cap n)(hp:ax E.N G p (tV (aj b off))):
  bE E O G ⟨dst,.load U p,ty,pos,after,g⟩ (tV (M l cap n)):=(bm (q:=rV) ti rfl rfl hget hm hp).imp fun _ _ h=>by rw [<-hv];exact(tR.1 h).1
def zn{q:Rp α}{r:Rp β}{get:β->Value}{x:β}{tD:TypeId}{p:Operand}(ti:TI E.P U 1 bytes false z)(hget:fW r off rV get)(hm:bx r T b x∈O)(hm2:Z q tD l cap xs∈O)(hv:get x=M l cap xs.length)(hp:ax E.N G p (tV (aj b off))):
  bE E O G ⟨dst,.load U p,ty,pos,after,g⟩ (tO q l cap xs):=fun a w S hs ho hf=>
 jT (fun _ _ ⟨v,S',H,J,h3,h4⟩=>⟨v,S',H,J,h3,h4,by
  have h5:v=M l cap xs.length:=h4
  rw [h5]
  exact ir (((ho.ext0 J).mem _ hm2).1)⟩) (fR (g:=g) (ty:=ty) (pos:=pos) (after:=after) (dst:=dst) ti hget hm hv hp a w S hs ho hf)
def o0{o:Nat}{p:Operand}(hf:aX E.P T i=some (off,sz))(h0:Nat.beq sz 0=false)(hp:ax E.N G p (tV (aj b o)))(he:o+off=n):bE E O G ⟨dst,.fieldAddr T p i,ty,pos,after,g⟩ (tV (aj b n)):=by
 subst he
 exact yR hf h0 hp
def nK{q:Rp α}{r:Rp β}{x:β}{p:Operand}(ti:TI E.P U sz bytes agg z)(hsz:q.sz=sz)(hag:q.agg=agg)(hag2:r.agg=agg)(hsz2:r.sz=sz)(hm:bx r T b x∈O)(hc: ∀w S cs,cr E.base E.B w S O->r.rc S cs x->q.rc S cs y)(hp:ax E.N G p (tV (aj b 0))):
  bE E O G ⟨dst,.load U p,ty,pos,after,g⟩ (V q y):= .of_pure fun a w S _ ho hf=>by
 have H:a.eval p=aj b 0:=hp S a hf
 obtain⟨⟨_,cur,h5,h6⟩,_⟩:=ho.mem _ hm
 have h7:=hc w S _ ho h6
 have hl:=q.len h7
 have h8:q.rc S ((cur.toList.drop 0).take q.sz) y:=by rw [r0,Ae (by omega)];exact h7
 exact⟨_,by simp [execOp,H,aj,Instr.loadAt,Instr.sureAddr,gy ti h5 hsz hag h8],_,rfl,h8⟩
def oC{q:Rp α}{tD:TypeId}(ho:cr base B w S O)(hm:Z q tD l cap xs∈O):(dz q).rc S [M l cap xs.length] xs:=G9 (ir (ho.mem _ hm).1)
end
def mE{α β γ:Type}(r:Rp α)(r' :Rp γ)(off:Nat)(q:Rp β)(x:α)(y:β)(x' :γ):Prop:= ∀S cs ds,r.rc S cs x->q.rc S ds y->r'.rc S (cs.take off++ds++cs.drop (off+q.sz)) x'
def qI{x:α}{y:β}(h:dk r off q set):mE r r off q x y (set x y):=fun S cs ds H J=>h S cs x ds y H J
def fx{x:α}{y:γ}(hs:r.sz=r'.sz):mE r r' 0 r' x y y:=fun S cs ds H J=>by
 have hl:=r.len H
 rw [List.take_zero,yF,se (by omega),List.append_nil]
 exact J
def rr{α' :Type}{p:Rp α}{p' :Rp α'}{x:α×β}{y:γ}{x1:α'}(h:mE p p' 0 u x.1 y x1)(hu:Nat.ble u.sz p.sz=true):mE (br p q) (br p' q) 0 u x y (x1,x.2):=fun S cs ds ⟨a,b,e,H,J⟩ hd=>by
 have hl:=p.len H
 have hu' :=mP hu
 have h3:=h S a ds H hd
 subst e
 rw [List.take_zero,yF,qr,List.drop_append_of_le_length (by omega),<-sa]
 rw [List.take_zero,yF,qr]at h3
 exact⟨_,_,rfl,h3,J⟩
def kX{β' :Type}{p:Rp α}{q' :Rp β'}{x:α×β}{y:γ}{off' :Nat}{x2:β'}(h:mE q q' off u x.2 y x2)(ho:off' =p.sz+off):mE (br p q) (br p q') off' u x y (x.1,x2):=fun S cs ds ⟨a,b,e,H,J⟩ hd=>by
 have hl:=p.len H
 have h3:=h S b ds J hd
 subst e ho
 refine⟨a,_,?_,H,h3⟩
 have e1:p.sz+off-a.length=off:=by omega
 have e2:p.sz+off+u.sz-a.length=off+u.sz:=by omega
 rw [List.take_append,List.drop_append,Ae (by omega),se (by omega),e1,e2]
 simp
variable{x' :γ}
def rq{α' β' :Type}{p:Rp α}{p' :Rp α'}{f:β->α}{f' :β' ->α'}{x:β}{x' :β'}{y:γ}{z:α'}(h:mE p p' off u (f x) y z)(e:f' x' =z):mE (f7 p f) (f7 p' f') off u x y x' :=fun S cs ds H J=>by
 show p'.rc S _ (f' x')
 rw [e]
 exact h S cs ds H J
section
variable{ty:TypeId}
def hZ{x:α}{y:β}{p v:Operand}(ti:TI E.P U sz bytes agg z)(hsz:q.sz=sz)(hset:mE r r' off q x y x')(hoff:Nat.ble (off+q.sz) r.sz=true)(hp:ax E.N G p (tV (aj b off)))(hv:ax E.N G v (V q y))(k:RG E ops ay rest (bx r' T b x' ::O) G):RG E ops ay (⟨none,.store U p v,ty,pos,after,none⟩::rest) (bx r T b x::O) G:= .of rfl fun a w S st=>by
 have H:a.eval p=aj b off:=hp S a st.facts
 obtain⟨ds,J,h3⟩:=hv S a st.facts
 obtain⟨⟨hno,cur,h5,h6⟩,_⟩:=st.own.1
 have hl:=r.len h6
 have hoff' :=mP hoff
 obtain⟨w',hr,e1,e2,e3,e4,e5,e6⟩:=fj ti hsz h3 h5 (off:=off) (by simp at hl;omega)
 have hrun:(execOp a.eval ⟨none,.store U p v,ty,pos,after,none⟩).run E.P w= .ok .skip w' :=by
  simp [execOp,H,J,Instr.storeAt,aj,Instr.sureAddr,hr]
 refine⟨fun c h=>(by cases h),?_⟩
 rw [hrun]
 obtain⟨g1,g2,g3⟩:=iy (O:=O) st.sat (bx r T b x) (bx r' T b x') st.own (fun _=>ot) (fun _=>ot) ⟨e1,e2,e3,e4.1,e4.2⟩ e6 ⟨hno,_,e5,by simpa using hset S _ _ h6 h3⟩ hno
 exact k _ _ S ⟨st.ext.step g1 (fun c hc=>st.own.1.2 c hc),g2,g3,st.facts⟩
def St.cvB{x:α}(h: ∀w S cs,cr E.base E.B w S O->r.rc S cs x->r'.rc S cs x')(st:St E (bx r T b x::O) G a w S):St E (bx r' T b x' ::O) G a w S:=
 st.own_map fun⟨⟨⟨H,c,J,h3⟩,h4⟩,h5,h6⟩=>⟨⟨⟨H,c,J,h _ _ _ h6 h3⟩,h4⟩,h5,h6⟩
def Ea{x:α}(h: ∀w S cs,cr E.base E.B w S O->r.rc S cs x->r'.rc S cs x')(k:RG E ops ay rest (bx r' T b x' ::O) G):RG E ops ay rest (bx r T b x::O) G:=fun a w S st=>k a w S (st.cvB h)
end

section
variable{b:Frame}{k:List Item}{cs:List Frame}{F:Fence}
def kH:step P (lone (b.atR a (.code (.scope c)::k)) cs w)= .next (lone (b.atR a (.code c:: .inScope c::k)) cs w):=
 step_lone_go (by simp [stepG,stepG.exec,Frame.atR])
def yN:step P (lone (b.atR a (.inScope c::k)) cs w)= .next (lone (b.atR a k) cs w):=
 step_lone_go (by simp [stepG,stepG.exec,Frame.atR])
def CW(h:c.wpIn F n P (Exit.noGoto ay) a w):(Code.scope c).wpIn F n P ay a w:=by
 intro b k cs hro D hr
 have h0:(lone (b.atR a (.code (.scope c)::k)) cs w).fenced P F:=fenced_calm D hr rfl
 obtain⟨e,a₁,w₁,hq,harr⟩:=h b (.inScope c::k) cs hro D hr
 cases e with
 |normal=>exact⟨.normal,a₁,w₁,hq,.head h0 kH (StepsIn.trans harr (.one (fenced_calm D hr rfl) yN))⟩
 |exit id=>
  have A:exitTo id (.inScope c::k)=exitTo id k:=by simp [exitTo]
  exact⟨.exit id,a₁,w₁,hq,fun k' hk=> .head h0 kH (harr.1 k' (by rw [A];exact hk)),
   fun hr' hk=>let⟨k₁,H,J⟩:=harr.2 hr' (by rw [A];exact hk);⟨k₁,H,.head h0 kH J⟩⟩
 |goto l=>exact hq.elim
 |ret=>exact⟨_,a₁,w₁,hq,.of_steps (.one h0 kH) harr⟩
 |panic ch=>exact⟨_,a₁,w₁,hq,.of_steps (.one h0 kH) harr⟩
 |outgrown=>exact⟨_,a₁,w₁,hq,.of_steps (.one h0 kH) harr⟩
end
section
def CC(h:CG E (Exit.noGoto ay) c O G):CG E ay (.scope c) O G:=fun a w S st=>CW (h a w S st)
def CD{l:Nat}(h:AT E ay .normal O G):CG E ay (.label l) O G:=fun a w S st=>wpIn_label (h a w S st)
def vQ(h:AT E ay .ret O G):AT E (Exit.noGoto ay) .ret O G:=h
end

def AQ [Inhabited α](h:i<m):fW (lC r m) (i*r.sz) r (fun x=>(x[i]?).getD default):=fun S cs x ⟨H,J⟩=>by
 have hi:x[i]? =some ((x[i]?).getD default):=by rw [nw (by omega)];rfl
 exact ug J hi
def J5 [DecidableEq α] [Inhabited α]{t e:Nat}(Y:P.underlying t=some (.array m e))(ti:TI P e sz bytes agg z)(hsz:r.sz=sz)(hag:r.agg=agg)(he:ii P e r n):ii P t (lC r m) (n+1):=fun S cs ds x y ac w A hy=>by
 obtain⟨i,zv,hi,hs,_⟩:=ti.get
 have hcell:P.cellsOf e=r.sz:=by unfold Program.cellsOf;rw [hi];simp [hs,hsz]
 have e1:(lC r m).val cs= .agg cs.toArray:=rfl
 have e2:(lC r m).val ds= .agg ds.toArray:=rfl
 rw [e1,e2,show ac+(n+1)=(ac+n)+1 from rfl,run_equalIn_array w (ac+n) cs.toArray ds.toArray Y hi,List.range_eq_range',hcell]
 have key: ∀k j,j+k=m->(Op.eqItems (ac+n) e r.sz cs.toArray ds.toArray (List.range' j k)).run P w= .ok (decide (x.drop j=y.drop j)) w:=by
  intro k
  induction k with
  |zero=>
   intro j hj
   rw [se (by have:=A.1;omega),se (by have:=hy.1;omega)]
   rfl
  |succ k ih=>
   intro j hj
   have hjx:j<x.length:=by have:=A.1;omega
   have hjy:j<y.length:=by have:=hy.1;omega
   have H:=nb ti hsz hag (AQ (r:=r) (m:=m) (i:=j) (by omega)) A w
   have J:=nb ti hsz hag (AQ (r:=r) (m:=m) (i:=j) (by omega)) hy w
   have h3:=he S _ _ _ _ ac w (AQ (r:=r) (m:=m) (i:=j) (by omega) S cs x A) (AQ (r:=r) (m:=m) (i:=j) (by omega) S ds y hy)
   rw [List.range'_succ]
   unfold Op.eqItems
   simp only [mi,H,J,h3,m6]
   have ex:x.drop j=(x[j]?).getD default::x.drop (j+1):=by rw [nw hjx];exact uW hjx
   have ey:y.drop j=(y[j]?).getD default::y.drop (j+1):=by rw [nw hjy];exact uW hjy
   rw [ex,ey]
   by_cases hq:(x[j]?).getD default=(y[j]?).getD default
   ·simp only [hq,decide_true,sI,sb,nu]
    rw [ih (j+1) (by omega)]
    congr 1
    simp
   ·simp [hq]
 have:=key m 0 (by omega)
 simpa using this
section
variable{ty:TypeId}
def nr{xs:List Operand}{sz' bytes' :Nat}{agg' :Bool}{z' :List Value}(Y:E.P.underlying t=some (.array m T))(ti:TI E.P T sz bytes agg z)(hsz:r.sz=sz)(tj:TI E.P t sz' bytes' agg' z')(hz:z'.length=m*r.sz)(hm:m=ys.length)(A:fM E.N G xs (ys.map (V r))):bE E O G ⟨dst,.build t (sD 0 xs).toArray,ty,pos,after,g⟩ (V (lC r m) ys):=
 .of_pure fun a w S _ _ hF=>by
  obtain⟨zv,hzr,hzc⟩:=tj.zero w
  obtain⟨cs,hc,hfill⟩:=ya ys (xs.map a.eval) 0 [] z' (A.tys hF) (by simp) (by rw [hz,hm])
  subst hsz
  have hparts:((sD 0 xs).toArray.map fun(i,x)=>(i,a.eval x)).toList=wj 0 (xs.map a.eval):=by simpa using vE a.eval 0 xs
  rw [yF,yF]at hfill
  refine⟨.agg cs.toArray,?_,cs,rfl,hm.symm,hc⟩
  simp only [execOp,Instr.build,mi,hzr,m6,mK Y,ti.sizeOf,hzc,hparts,hfill]
  simp
end
end Go.Proofs.YthbdkceckjihgaaGreatDoor

