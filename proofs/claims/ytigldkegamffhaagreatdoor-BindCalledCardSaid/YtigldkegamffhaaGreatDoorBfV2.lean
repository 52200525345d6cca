/- de of this claim: W12, W13, W14, W16, W17, W18, W19, W20, W22, W23, W24, W25, W26, W28, W30, W31, W32. -/
import Derived.Test.YtigldkegamffhaaGreatDoorBfV1
import Derived.RangeFuncRecord
import Derived.RangeFuncLeaves
import Derived.Laws.StructEq
import Derived.Lib.ConvBytes
import Derived.Lib.AppendZeros
import Derived.Laws.MakeOwn
import Derived.MapKept
import Derived.Scope
import Derived.ChangeKeysEq
set_option linter.all false
namespace Go.Proofs.YtigldkegamffhaaGreatDoor
open Go

variable{B:Nat->Prop}{O:List OE}{S S' :SH}{b base:Nat}{e:TypeId}{f:FuncId}{k:IntKind}{w w' :World}
def tJ(h:du base B w S O)(k:kx uc w S w' S'){e:OE}(he:e.p w' S')(hn: ∀b,e.fp b->w.heap.size<=b)(H:base<=w.heap.size:=by first|assumption|exact St.base_le (by assumption)):du base B w' S' (e::O):=
 ⟨⟨he,fun b hb' => .inl (nA H (hn b hb'))⟩,fun f hf b hb' hfb=>by
  have:=f.here (du.mem h f hf).1 b hfb
  have:=hn b hb'
  omega,h.ext0 k⟩
def lH(P:Program)(f:FuncId)(ts:List Ty)(mm:Bool){α:Type}(r:Rp α)(T:TypeId)(xs:List α):Prop:=
 ∀w S vs,lV w S->Ay S ts vs->Calls P f vs.toArray w fun e w' => ∃l cap S',e= .returned (Y l cap xs.length)/\kx uc w S w' S' /\lV w' S' /\(ku mm r T l cap xs).holds w.heap.size uc w' S'
variable{T:TypeId}{cap:Nat}{α:Type}{l:Option Nat}{mm:Bool}{r:Rp α}{xs:List α}
def Oe(h:(ku mm r T l cap xs).holds w.heap.size uc w' S')(he:kx uc w S w' S')(hs:lV w' S'):
  ∃S'',kx uc w S w' S'' /\lV w' S'' /\(K (fJ r) xs).p S'' (Y l cap xs.length):=by
 have st:St ⟨default,⟨0,[]⟩,uc,w,S,none⟩ [ku mm r T l cap xs] [] ⟨#[],[]⟩ w' S' :=⟨he,hs,⟨h,fun _ hf=>(by cases hf),trivial⟩,⟨rfl,rfl,fun _ _ h=>(by simp [look]at h)⟩⟩
 obtain⟨S'',A,V⟩:=st.settle
 exact⟨S'',A.ext,A.sat,V⟩
variable{P:Program}{ts:List Ty}
def lH.spec(h:lH P f ts mm r T xs):dZ P f ts (K (fJ r) xs):=fun w S vs hs hv=>
 (h w S vs hs hv).mono fun e w' ⟨l,cap,S',he,A,V,h3⟩=>by
  obtain⟨S'',h4,h5,h6⟩:=Oe h3 A V
  exact⟨_,S'',he,h4,h5,h6⟩
def abt(E:En)(mm:Bool){α:Type}(r:Rp α)(T:TypeId)(xs:List α):Ending->World->Prop:=fun e w' => ∃l cap S',e= .returned (Y l cap xs.length)/\kx E.B E.w0 E.S0 w' S' /\lV w' S' /\(ku mm r T l cap xs).holds E.w0.heap.size E.B w' S'
variable{N:Nat}{S0:SH}{c:Code}{fn:Func}{n:Nat}{w0:World}
def lH.of(hf:P.funcs[f]? =some fn)(H:fn.body=some c)(hN:fn.ntmps=N)(hn:Nat.ble ts.length N=true)(h: ∀w0 S0,CG ⟨P,⟨N,[]⟩,uc,w0,S0,none⟩ (bodyPost P fn (abt ⟨P,⟨N,[]⟩,uc,w0,S0,none⟩ mm r T xs)) c [] (AX 0 ts)):lH P f ts mm r T xs:=by
 subst hN
 intro w S vs hs hv
 exact xu.1 (callsIn_of_wp (F:=fw none) (n:=0) hf H trivial (h w S _ w S ⟨kx.refl _ _ _,hs,trivial,BM hv _ (rm hn)⟩))
variable{E:En}{G:lY}{af:Exit->Act->World->Prop}{a:Act}{after:Array Edge}{agg:Bool}{ats:Array TypeId}{bytes aN:Nat}{ops:Array Oper}{pos:String}{γ:Type}{rest:List Oper}{sz:Nat}{t:TypeId}{u:Rp γ}{ys:List α}{z:List Value}
section
def qW{k:Nat}(hr:fn.results= #[.tmp k])(hk:look G k=some (Z (Y l cap n)))(hn:n=xs.length:=by rfl):
  AT ⟨P,⟨N,[]⟩,B,w0,S0,none⟩ (bodyPost P fn (abt ⟨P,⟨N,[]⟩,B,w0,S0,none⟩ mm r T xs)) .ret (ku mm r T l cap xs::O) G:=fun a w S st=>by
 subst hn
 have hv:a.tmps.getD k undef=Y l cap xs.length:=st.facts.at_ k _ hk
 exact⟨st.facts.defers,_,sZ P fn k hr _ _,l,cap,S,by rw [hv],st.ext,st.sat,st.own.1⟩
section
variable{ty:TypeId}
def Tg{xs:List Operand}{u:Nat->Option Nat->Ty}(hc:aj E.P f=true)(hs:lH E.P f ts mm r T ys)(D:j3 E.N G xs ts)(hd:Nat.blt aN E.N.n=true)(hu: ∀l cap w0 S,(ku mm r T l cap ys).p w0 S->(u cap l).p S (Y l cap ys.length))(k: ∀l cap,RG E ops af rest (ku mm r T l cap ys::O) ((aN,u cap l)::G)):
  RG E ops af (⟨some aN,.call ⟨.value (.func f),xs.toArray,ats⟩,ty,pos,after,none⟩::rest) O G:= .of rfl fun a w S st=>by
 have hr:(execOp a.eval ⟨some aN,.call ⟨.value (.func f),xs.toArray,ats⟩,ty,pos,after,none⟩).run E.P w= .ok (.enter f (xs.map a.eval).toArray) w:=by
  simp [execOp,resolve,Act.eval,Deferred.ofValue,invoke,jN hc]
 refine⟨fun c h=>(by cases h),?_⟩
 rw [hr]
 refine(hs w S _ st.sat (D.tys st.facts)).mono fun e w' ⟨l,cap,S',he,A,V,h3⟩=>⟨_,he,?_⟩;refine k l cap _ _ S' ⟨st.ext.step0 A,V,tJ st.own A h3.1 (fun b H=>(h3.2 b H).resolve_right id) st.base_le,(st.facts.mono A.keep).put hd (hu l cap w' S' h3.1)⟩
def VO{xs:List Operand}(hc:aj E.P f=true)(hs:lH E.P f ts false r T ys)(D:j3 E.N G xs ts)(hd:Nat.blt aN E.N.n=true)(k: ∀l cap,RG E ops af rest (dv r T l cap ys::O) ((aN,Z (Y l cap ys.length))::G)):
  RG E ops af (⟨some aN,.call ⟨.value (.func f),xs.toArray,ats⟩,ty,pos,after,none⟩::rest) O G:=Tg (u:=fun cap l=>Z (Y l cap ys.length)) hc hs D hd (fun _ _ _ _ _=>rfl) k
def jw{xs:List Operand}{parts:List (Nat×Operand)}(M:E.P.underlying t=some (.slice T))(ti:TI E.P T sz bytes agg z)(hsz:r.sz=sz)(h0:Nat.blt 0 sz=true)(hp:parts=AZ 0 xs)(hn:n=ys.length)(H:Nat.ble (n*sz) 16777216=true)(D:j3 E.N G xs (ys.map (K r)))(hd:Nat.blt aN E.N.n=true)(k: ∀l cap,RG E ops af rest (dv r T l cap ys::O) ((aN,Z (Y l cap ys.length))::G)):
  RG E ops af (⟨some aN,.buildSlice t n parts.toArray,ty,pos,after,none⟩::rest) O G:= .of rfl fun a w S st=>by
 obtain⟨cs,hc,hr⟩:=yN M ti hsz hn H (D.tys st.facts) w
 subst hsz
 subst hp
 have hb' :=rm H
 have h0' :0<r.sz:=by simpa [sr] using h0
 have hnle:n<=n*r.sz:=Nat.le_mul_of_pos_right n h0'
 have hcl:=lx hc
 obtain⟨he,hs',hno⟩:=kL (w:=w) (.cells cs.toArray T (0,0)) st.sat
 have hrun:(execOp a.eval ⟨some aN,.buildSlice t n (AZ 0 xs).toArray,ty,pos,after,none⟩).run E.P w= .ok (.value (.slice (some ⟨w.heap.size,0,none⟩) n n)) (w.alloc (.cells cs.toArray T (0,0))):=by
  simp only [execOp,qZ,hr,sq,EK]
 refine⟨fun c h=>(by cases h),?_⟩
 rw [hrun]
 refine k (some w.heap.size) n _ _ S ⟨st.ext.step0 he,hs',tJ st.own he ⟨cs,⟨cs.toArray,Az w _,by omega,by simp only [maxLen];omega,by simp [hcl,hn],by simp [<-hcl]⟩,hc,fun b H=>by rw [<-nR H];exact hno⟩ (fun b H=>EF (nR H)) st.base_le,st.facts.put hd ?_⟩
 ·show _=Y _ _ _
  rw [<-hn];rfl
end
end

def al(b off:Nat):Value:= .pointer (some ⟨b,off,none⟩)
def bx{α:Type}(r:Rp α)(T:TypeId)(b:Nat)(x:α):OE where
 fp:=fun k=>k=b
 p:=fun w S=>S b=none/\ ∃c,w.heap[b]? =some (.cells c T (0,0))/\r.rc S c.toList x
 here:=by
  intro w S h k hk
  subst hk
  obtain⟨A,c,V,_⟩:=h
  exact(Bb.1 V).1
 kept:=by
  intro C w w' S S' h k hC
  obtain⟨A,c,V,h3⟩:=h
  have hlt:=(Bb.1 V).1
  exact⟨by rw [k.old b hlt (hC b rfl)];exact A,c,by rw [k.heap b hlt (hC b rfl)];exact V,r.mono k.keep h3⟩
def rV:Rp Value where
 sz:=1
 agg:=false
 rc:=fun _ cs v=>cs=[v]/\v.oneCell' =true
 mono:=fun _ h=>h
 len:=fun h=>by rw [h.1];rfl
 one:=fun h c hc=>by rw [h.1]at hc;simp at hc;subst hc;exact h.2
 sc:=fun _=>rfl
def zK{u:Value}{v:Value}:(K rV u).p S v↔v=u/\u.oneCell' =true:=by
 constructor
 ·rintro⟨cs,rfl,A,V⟩;subst A;exact⟨rfl,V⟩
 ·rintro⟨rfl,h⟩;exact⟨[v],rfl,rfl,h⟩
def fm{α β:Type}(r:Rp α)(off:Nat)(q:Rp β)(set:α->β->α):Prop:= ∀S cs x ds y,r.rc S cs x->q.rc S ds y->r.rc S (cs.take off++ds++cs.drop (off+q.sz)) (set x y)
variable{U:TypeId}{dst:Option Tmp}{g:Option (Nat×Bool)}{β:Type}{get:α->β}{i:Nat}{o:Oper}{off:Nat}{q:Rp β}{set:α->β->α}{x:Operand}{y:α}
section
variable{e:Exit}
def St.settleB{k:Nat}{x:α}(h:St E (bx r T b x::O) G a w S)(hk:look G k=some (Z (al b 0))): ∃S',St E O ((k,bt r x)::G) a w S' :=by
 obtain⟨⟨hn,cur,h3,h4⟩,_⟩:=h.own.1
 obtain⟨h8,hle,_,_⟩:=Bp h rfl h3 (wi _) hn
 have hv:a.tmps.getD k undef=al b 0:=h.facts.at_ k _ hk
 refine⟨_,h8.cons ⟨b,0,cur,T,(0,0),hv,by simp [SH.set],?_⟩⟩
 have hl:cur.size=r.sz:=by have:=r.len h4;simpa using this
 have:=r.mono hle h4
 rw [qh,oB (by simp [hl])];exact this
def a8{x:α}(k:Nat)(hk:look G k=some (Z (al b 0)))(h:RG E ops af rest O ((k,bt r x)::G)):RG E ops af rest (bx r T b x::O) G:=
 fun a w _ st=>let⟨S',st'⟩:=st.settleB hk;h a w S' st'
def dV{x:α}(k:Nat)(hk:look G k=some (Z (al b 0)))(h:AT E af e O ((k,bt r x)::G)):AT E af e (bx r T b x::O) G:=
 fun a w _ st=>let⟨S',st'⟩:=st.settleB hk;h a w S' st'
section
variable{ty:TypeId}
def ba{x:α}(ti:TI E.P T sz bytes agg z)(D: ∀S,r.rc S z x)(hd:Nat.blt aN E.N.n=true)(k: ∀b,RG E ops af rest (bx r T b x::O) ((aN,Z (al b 0))::G)):RG E ops af (⟨some aN,.alloc T,ty,pos,after,none⟩::rest) O G:= .of rfl fun a w S st=>by
 obtain⟨zv,hzr,hzc⟩:=ti.zero w
 obtain⟨he,hs',hno⟩:=kL (w:=w) (.cells z.toArray T (0,0)) st.sat
 have hrun:(execOp a.eval ⟨some aN,.alloc T,ty,pos,after,none⟩).run E.P w= .ok (.value (al w.heap.size 0)) (w.alloc (.cells z.toArray T (0,0))):=by
  simp [execOp,Instr.alloc,hzr,newVar,newRow,hzc,al]
 refine⟨fun c h=>(by cases h),?_⟩
 rw [hrun]
 exact k w.heap.size _ _ S ⟨st.ext.step0 he,hs',tJ st.own he ⟨hno,z.toArray,Az w _,by simpa using D S⟩ (fun b H=>EF H.symm) st.base_le,st.facts.put hd rfl⟩
def Dp{v:α}(D:aL E.N G x (K r v))(hd:Nat.blt aN E.N.n=true)(k: ∀b,RG E ops af rest (bx r T b v::O) ((aN,Z (al b 0))::G)):RG E ops af (⟨some aN,.box T x,ty,pos,after,none⟩::rest) O G:= .of rfl fun a w S st=>by
 obtain⟨cs,hv,hc⟩:=D S a st.facts
 obtain⟨he,hs',hno⟩:=kL (w:=w) (.cells cs.toArray T (0,0)) st.sat
 have hrun:(execOp a.eval ⟨some aN,.box T x,ty,pos,after,none⟩).run E.P w= .ok (.value (al w.heap.size 0)) (w.alloc (.cells cs.toArray T (0,0))):=by
  simp [execOp,Instr.box,newVar,newRow,hv,wd hc,al]
 refine⟨fun c h=>(by cases h),?_⟩
 rw [hrun]
 exact k w.heap.size _ _ S ⟨st.ext.step0 he,hs',tJ st.own he ⟨hno,cs.toArray,Az w _,by simpa using hc⟩ (fun b H=>EF H.symm) st.base_le,st.facts.put hd rfl⟩
def ll(hs:lV w S)(f f' :OE)(h:du base B w S (f::O))(hf: ∀k,f.fp k↔k=b)(hf' : ∀k,f'.fp k↔k=b)(hg:w'.os=w.os/\w'.tape=w.tape/\w'.output=w.output/\w'.heap.size=w.heap.size/\w.drawn<=w'.drawn)(ho: ∀k,k≠b->w'.heap[k]? =w.heap[k]?)(hp:f'.p w' S)(hno:S b=none):kx (fun k=>k=b) w S w' S/\lV w' S/\du base B w' S (f' ::O):=by
 have hext:kx (fun k=>k=b) w S w' S:=⟨hg.1,hg.2.1,hg.2.2.1,hg.2.2.2.2,by omega,fun k _ hk=>ho k hk,SH.le_refl _,fun _ _ _=>rfl⟩
 refine⟨hext,hs.same fun k o hk=>?_,⟨hp,fun k hk=>h.1.2 k ((hf k).2 ((hf' k).1 hk))⟩,fun g hgm k hk=>h.2.1 g hgm k ((hf k).2 ((hf' k).1 hk)),h.2.2.ext hext fun g hgm k hk hkb=>h.2.1 g hgm k ((hf k).2 hkb) hk⟩
 have hne:k≠b:=fun e=>by subst e;rw [hno]at hk;cases hk
 exact ho k hne
def iD{q:Rp α}(ti:TI P U sz bytes agg z)(hsz:q.sz=sz){ds:List Value}(hy:q.rc S ds y){cur:Array Value}(hg:w.heap[b]? =some (.cells cur T (0,0)))(hfit:off+q.sz<=cur.size):
  ∃w',(storeVar U ⟨b,off,none⟩ (q.val ds)).run P w= .ok () w' /\w'.os=w.os/\w'.tape=w.tape/\w'.output=w.output/\(w'.heap.size=w.heap.size/\w.drawn<=w'.drawn)/\w'.heap[b]? =some (.cells (cur.toList.take off++ds++cur.toList.drop (off+q.sz)).toArray T (0,0))/\ ∀k,k≠b->w'.heap[k]? =w.heap[k]? :=by
 have hl:=q.len hy
 have hst:=run_storeCells_at P b off T ds 0 cur w hg (by omega) (q.one hy)
 simp only [F6]at hst
 refine⟨w.setRow b (cur.toList.take off++ds++cur.toList.drop (off+ds.length)).toArray,?_,rfl,rfl,rfl,⟨?_,gu _⟩,?_,fun k hk=>setRow_other w b k _ hk⟩
 ·generalize (cur.toList.take off++ds++cur.toList.drop (off+ds.length)).toArray=X at hst ⊢
  simp only [storeVar,qZ,ti.sizeOf,sq,wd hy,EQ,hl,hsz]
  simp only [ne_eq,not_true_eq_false,jB]
  simpa using hst
 ·simp [World.setRow]
 ·rw [setRow_heap w b cur _ T _ hg,<-hl]
def jJ{x:α}{y:β}{p v:Operand}(ti:TI E.P U sz bytes agg z)(hsz:q.sz=sz)(hset:fm r off q set)(hoff:Nat.ble (off+q.sz) r.sz=true)(hp:aL E.N G p (Z (al b off)))(hv:aL E.N G v (K q y))(k:RG E ops af rest (bx r T b (set x y)::O) G):RG E ops af (⟨none,.store U p v,ty,pos,after,none⟩::rest) (bx r T b x::O) G:= .of rfl fun a w S st=>by
 have A:a.eval p=al b off:=hp S a st.facts
 obtain⟨ds,V,h3⟩:=hv S a st.facts
 obtain⟨⟨hno,cur,h5,h6⟩,_⟩:=st.own.1
 have hl:=r.len h6
 have hoff' :=rm hoff
 obtain⟨w',hr,e1,e2,e3,e4,e5,e6⟩:=iD ti hsz h3 h5 (off:=off) (by simp at hl;omega)
 have hrun:(execOp a.eval ⟨none,.store U p v,ty,pos,after,none⟩).run E.P w= .ok .skip w' :=by
  simp [execOp,A,V,Instr.storeAt,al,Instr.sureAddr,hr]
 refine⟨fun c h=>(by cases h),?_⟩
 rw [hrun]
 obtain⟨g1,g2,g3⟩:=ll (O:=O) st.sat (bx r T b x) (bx r T b (set x y)) st.own (fun _=>ul) (fun _=>ul) ⟨e1,e2,e3,e4.1,e4.2⟩ e6 ⟨hno,_,e5,by simpa using hset S _ _ _ _ h6 h3⟩ hno
 exact k _ _ S ⟨st.ext.step g1 (fun c hc=>st.own.1.2 c hc),g2,g3,st.facts⟩
def ak:fm r 0 r (fun _ y=>y):=fun S cs x ds y A V=>by
 have hl:=r.len A
 simpa [<-hl] using V
end
section
variable{ty:TypeId}
def ID{o:Nat}{p:Operand}(hf:bp E.P T i=some (off,sz))(h0:Nat.beq sz 0=false)(hp:aL E.N G p (Z (al b o))):ce E O G ⟨dst,.fieldAddr T p i,ty,pos,after,g⟩ (Z (al b (o+off))):=
 .of_pure fun a w S _ _ hF=>by
  have A:a.eval p=al b o:=hp S a hF
  obtain⟨fs,f,e1,e2,e3,e4⟩:=D0 hf
  have h0' :sz≠0:=fun e=>by subst e;simp at h0
  refine⟨al b (o+off),?_,rfl⟩
  simp [execOp,A,al,Instr.fieldAt,jx e1,e2,Instr.sureAddr,fieldPlace,e4,h0',e3,iU]
def bn{x:α}{p:Operand}(ti:TI E.P U sz bytes agg z)(hsz:q.sz=sz)(hag:q.agg=agg)(hget:ju r off q get)(hm:bx r T b x∈O)(hp:aL E.N G p (Z (al b off))):
  ce E O G ⟨dst,.load U p,ty,pos,after,g⟩ (K q (get x)):=
 .of_pure fun a w S _ ho hf=>by
  have A:a.eval p=al b off:=hp S a hf
  obtain⟨⟨_,cur,h5,h6⟩,_⟩:=ho.mem _ hm
  have h7:=hget S _ _ h6
  refine⟨_,?_,_,rfl,h7⟩
  simp [execOp,A,al,Instr.loadAt,Instr.sureAddr,iu ti h5 hsz hag h7]
def cg:ju r 0 r (fun x=>x):=fun S cs x h=>by
 have hl:=r.len h
 simpa [<-hl] using h
end
end

def cE{p:Rp α}:fm (bS p q) 0 p (fun x y=>(y,x.2)):=fun S cs x ds y h k=>by
 obtain⟨a,b,e,A,V⟩:=h
 have hl:=p.len A
 refine⟨ds,b,?_,k,V⟩
 rw [e,<-hl];simp
variable{s:Rp γ}
def ax{p:Rp α}{off' :Nat}{u:β->γ->β}(h:fm q off s u)(ho:off' =p.sz+off):fm (bS p q) off' s (fun x y=>(x.1,u x.2 y)):=fun S cs x ds y D hy=>by
 obtain⟨a,b,e,A,V⟩:=D
 have hl:=p.len A
 refine⟨a,b.take off++ds++b.drop (off+s.sz),?_,A,h S b x.2 ds y V hy⟩
 rw [e,ho,<-hl,List.take_length_add_append,show a.length+off+s.sz=a.length+(off+s.sz)from by omega,List.drop_length_add_append]
 simp
def bB{p:Rp α}{q:Rp γ}{u:α->γ->α}{f:β->α}{set:β->γ->β}(h:fm p off q u)(hf: ∀x y,f (set x y)=u (f x) y):fm (j4 p f) off q set:=fun S cs x ds y D hy=>by
 show p.rc S _ (f (set x y))
 rw [hf]
 exact h S cs (f x) ds y D hy
def ig(P:Program)(T:TypeId):Option (List (Nat×Nat)):=
 match P.underlying T with
 |some (.struct fs)=>fs.toList.mapM fun f=>(P.info? f.type).map fun q=>(f.offset,q.size)
 |_=>none
def GF{P:Program}: ∀(fs:List Field) (ps:List (Nat×Nat)) (w:World),fs.mapM (fun f=>(P.info? f.type).map fun q=>(f.offset,q.size))=some ps->
  (fs.mapM (fun f=>do pure (f.offset,<-sizeOf f.type):Field->Sem (Nat×Nat))).run P w= .ok ps w
 |[],ps,w,h=>by
  simp at h;subst h
  simp
 |f::fs,ps,w,h=>by
  simp only [List.mapM_cons]at h ⊢
  cases hq:P.info? f.type with
  |none=>simp [hq]at h
  |some q=>
   cases hr:fs.mapM (fun f=>(P.info? f.type).map fun q=>(f.offset,q.size))with
   |none=>simp [hq,hr]at h
   |some qs=>
    simp [hq,hr]at h
    subst h
    have ih:=GF fs qs w hr
    simp [sizeOf,typeInfo,hq]at ih ⊢
    simp [ih]
section
variable{ty:TypeId}
def BP(E:En)(G:lY){α:Type}(r:Rp α)(ps:List (Nat×Nat)):α->List (Nat×Operand)->α->Prop
 |x,[],y=>x=y
 |x,(i,o)::rest,y=> ∃(β:Type) (q:Rp β) (set:α->β->α) (off:Nat) (v:β),ps[i]? =some (off,q.sz)/\fm r off q set/\Nat.ble (off+q.sz) r.sz=true/\aL E.N G o (K q v)/\BP E G r ps (set x v) rest y
def Hy{α:Type}{r:Rp α}{ps:List (Nat×Nat)}{S:SH}{a:Act}(hF:de E.N S a G): ∀(parts:List (Nat×Operand)) (x y:α) (cs:List Value),BP E G r ps x parts y->r.rc S cs x->
  ∃ds,r.rc S ds y/\Instr.fill (ps.toArray[·]?) cs.toArray (parts.map fun p=>(p.1,a.eval p.2))=some ds.toArray
 |[],x,y,cs,h,D=>by
  have e:x=y:=h
  subst e
  exact⟨cs,D,rfl⟩
 |(i,o)::rest,x,y,cs,⟨β,q,set,off,v,A,V,h3,h4,h5⟩,D=>by
  obtain⟨c,hv,hc⟩:=h4 S a hF
  have hl:=q.len hc
  have hlr:=r.len D
  have h3' :=rm h3
  have hcells:(a.eval o).cells=c.toArray:=by rw [hv];exact wd hc
  obtain⟨ds,h6,h7⟩:=Hy hF rest _ y _ h5 (V S cs x c v D hc)
  refine⟨ds,h6,?_⟩
  have hps:ps.toArray[i]? =some (off,q.sz):=by simpa using A
  have hs:(a.eval o).cells.size=q.sz:=by rw [hcells];simpa using hl
  have h8:=Cv (a.eval o) off (cs.take off) ((cs.drop off).take q.sz) (cs.drop (off+q.sz)) (by rw [hs];simp;omega) (by simp;omega)
  have e1:cs.take off++(cs.drop off).take q.sz++cs.drop (off+q.sz)=cs:=by
   rw [gI,<-uk,ra,ra]
  rw [e1]at h8
  simp only [pE,Instr.fill,hps]
  rw [bm (by simp [hs,hlr];omega),h8,hcells]
  simpa using h7
def cQ{x:α}{parts:List (Nat×Operand)}{ps:List (Nat×Nat)}(ti:TI E.P T sz bytes agg z)(hp:ig E.P T=some ps)(hz: ∀S,r.rc S z x)(H:BP E G r ps x parts y)(ha:r.agg=true:=by rfl):
  ce E O G ⟨dst,.build T parts.toArray,ty,pos,after,g⟩ (K r y):=
 .of_pure fun a w S _ _ hF=>by
  obtain⟨zv,hzr,hzc⟩:=ti.zero w
  obtain⟨ds,A,V⟩:=Hy hF parts x y z H (hz S)
  unfold ig at hp
  split at hp
  ·rename_i fs hu
   have hpl:=GF fs.toList ps w hp
   have hpl2:(fs.mapM (fun f=>do pure (f.offset,<-sizeOf f.type):Field->Sem (Nat×Nat))).run E.P w= .ok ps.toArray w:=by
    have hfs:fs=fs.toList.toArray:=by simp
    generalize fs.toList=l at hfs hpl
    subst hfs
    rw [List.mapM_toArray,Sem.run_map,hpl]
    rfl
   refine⟨.agg ds.toArray,?_,ds,(tu ha ds).symm,A⟩
   simp only [execOp,Instr.build,qZ,hzr,sq,jx hu,hpl2,hzc]
   have hm:(parts.toArray.map fun(i,x)=>(i,a.eval x)).toList=parts.map fun p=>(p.1,a.eval p.2):=by simp
   rw [hm,V]
   simp
  ·cases hp
end
section
def sN{k:Nat}{x:α}(hr:fn.results= #[.cell k T])(ti:TI P T sz bytes agg z)(hsz:r.sz=sz)(hag:r.agg=agg)(hk:look G k=some (bt r x)):
  AT ⟨P,⟨N,[]⟩,B,w0,S0,none⟩ (bodyPost P fn (Pr ⟨P,⟨N,[]⟩,B,w0,S0,none⟩ (K r x))) .ret O G:=fun a w S st=>by
 obtain⟨b,off,c,U,fr,A,V,h3⟩:=st.facts.at_ k _ hk
 obtain⟨c',h4,h5⟩:=st.sat.part V (r.len h3)
 rw [<-h5]at h3
 refine⟨st.facts.defers,r.val ((c'.toList.drop off).take r.sz),?_,_,S,rfl,st.ext,st.sat,_,rfl,h3⟩
 have hl:=iu ti h4 hsz hag h3
 have h1' :a.tmps[k]?.getD undef=Value.pointer (some ⟨b,off,none⟩):=by simpa [JZ] using A
 simp [results,hr,h1',asAddr,hl]
end

def nN(L:List Oper):Nat->Nat->Nat->Bool
 |0,_,_=>false
 |n+1,i,j=>match L[i]? with
  |some o=>o.after.toList.any fun e=>Region.binds .any e&&(Nat.beq e.on j||nN L n e.on j)
  |none=>false
def xo(L:List Oper)(m:Nat):Bool:=(List.range m).all fun j=>nN L L.length m j
def AH(L:List Oper)(n k:Nat):Bool:=(List.range k).all fun m=>xo L (n+m)&&(match L[n+m]? with|some o=>fK (n+m) o&&o.guard.isNone|none=>false)
variable{L:List Oper}{done:Array Bool}{hi j:Int}
def hY{L:List Oper}{done:Array Bool}(down: ∀j o,L[j]? =some o->done.getD j false=true-> ∀e∈o.after,Region.binds .any e=true->done.getD e.on false=true):
  ∀(n i j:Nat),(∀o,L[i]? =some o-> ∀e∈o.after,Region.binds .any e=true->done.getD e.on false=true)->nN L n i j=true->done.getD j false=true
 |0,_,_,_,h=>by cases h
 |n+1,i,j,hi,h=>by
  unfold nN at h
  cases ho:L[i]? with
  |none=>rw [ho]at h;cases h
  |some o=>
   rw [ho]at h
   obtain⟨e,he0,H⟩:=Dx.1 h
   have he:e∈o.after:=by simpa using he0
   rw [gQ,xY]at H
   have hd:=hi o ho e he H.1
   rcases H.2 with A|A
   ·rw [<-pF A];exact hd
   ·exact hY down n e.on j (fun p hp=>down e.on p hp hd) A
def DJ.stepT{l:List Oper}(h:DJ E O G l ts done a w S){t:Ty}{v:Value}(hi:l[i]? =some o)(hd:o.dst=some aN)(hdN:aN<E.N.n)(hs2: ∀j p,l[j]? =some p->done.getD j false=true->p.dst=some aN->i=j)(hwait: ∀e∈o.after,Region.binds .any e=true->done.getD e.on false=true)(M:ts[i]? =some t)(hun:done.getD i true=false)(hext:kx uc w S w' S')(hsat:lV w' S')(hv:t.p S' v):DJ E O G l ts (done.setIfInBounds i true) (a.put o.dst v) w' S' :=by
 have hda:aN<a.tmps.size:=by rw [h.size];exact hdN
 have hlt:i<done.size:=by rw [h.dsz];exact(o5.1 hi).1
 have hset: ∀j,(done.setIfInBounds i true).getD j false=true->j=i\/done.getD j false=true:=fun j hj=>by
  by_cases hij:i=j
  ·exact .inl hij.symm
  ·rw [xE false hij]at hj;exact .inr hj
 have hseti:(done.setIfInBounds i true).getD i false=true:=by simp [hlt]
 have hun' :done.getD i false=false:=by simp [hlt]at hun ⊢;exact hun
 refine⟨h.ext.step0 hext,hsat,h.own.ext0 hext,?_,?_,by simp [h.dsz],fun j p hj hdone e he H=>?_,fun k u hk hno=>?_,fun j p d' u hj hdone hd' hu=>?_⟩
 ·rw [hd];simp [Act.put,h.size]
 ·rw [hd];exact h.defers
 ·rcases hset j hdone with rfl|hj'
  ·rw [hi]at hj
   have:o=p:=by simpa using hj
   subst this
   exact Am (hwait e he H)
  ·exact Am (h.down j p hj hj' e he H)
 ·have hne:aN≠k:=fun e=>hno i o hi hseti (by rw [hd,e])
  rw [hd,vg hda,bm hne]
  exact u.mono hext.keep (h.old k u hk fun j p hj hdone=>hno j p hj (Am hdone))
 ·rw [hd,vg hda]
  rcases hset j hdone with rfl|hj'
  ·rw [hi]at hj
   have:o=p:=by simpa using hj
   subst this
   rw [hd]at hd'
   have:aN=d' :=by simpa using hd'
   subst this
   rw [bv rfl]
   rw [M]at hu
   have:t=u:=by simpa using hu
   subst this
   exact hv
  ·have hne:aN≠d' :=fun e=>by
    subst e
    have:=hs2 j p hj hj' hd'
    subst this
    rw [hj']at hun';cases hun'
   rw [bm hne]
   exact u.mono hext.keep (h.new j p d' u hj hj' hd' hu)
def oN(h:i<done.size):done.getD i true=done.getD i false:=by simp [h]
def va(h:lK done=0)(hi:i<done.size):done.getD i false=true:=by
 unfold lK at h
 rw [List.countP_eq_zero]at h
 have V:done[i]∈done.toList:=by simp
 have:=h _ V
 rw [<-oN hi]
 simpa [hi] using this
variable{m:Nat}
def Be{r:Option Nat}(hc: ∀m o,n<=m->L[m]? =some o->xo L m=true)(hedge: ∀m o,L[m]? =some o->fK m o=true):
  ∀(rest:List Oper) (m:Nat) (done:Array Bool) (fuel:Nat) (a:Act) (w:World),n<=m->L.drop m=rest->done.size=L.length->(∀j,j<L.length->(done.getD j false=true↔j<m))->lK done=fuel->
   wpListIn (fw r) 0 P L.toArray af rest a w->wpAnyIn (fw r) 0 P .any L.toArray af fuel done a w:=by
 intro rest
 induction rest with
 |nil=>
  intro m done fuel a w hnm hdrop hsz hdone hu h
  have hlen:L.length<=m:=Gc.1 hdrop
  have hr:Region.ready .any L.toArray done=[]:=by
   cases hr:Region.ready .any L.toArray done with
   |nil=>rfl
   |cons i r=>
    have hm:i∈Region.ready .any L.toArray done:=by rw [hr];exact lg ..
    obtain⟨hun,o,ho,_⟩:=um.1 hm
    have hi:i<L.length:=by simpa using (Bb.1 ho).1
    have:=(hdone i hi).2 (by omega)
    rw [oN (by omega)]at hun
    rw [hun]at this;cases this
  cases fuel with
  |zero=>exact⟨hr,h⟩
  |succ f=>exact⟨fun _=>h,fun i hi=>by rw [hr]at hi;cases hi⟩
 |cons o rest ih=>
  intro m done fuel a w hnm hdrop hsz hdone hu h
  have hm:m<L.length:=by
   rcases lZ m L.length with h' |h'
   ·exact h'
   ·rw [Gc.2 h']at hdrop;cases hdrop
  have hLm:L[m]? =some o:=by
   have:=wz (xs:=L) (i:=m) (j:=0)
   rw [hdrop]at this
   simpa using this.symm
  have hmu:done.getD m true=false:=by
   have hnot: ¬(done.getD m false=true):=fun V=>by have:=(hdone m hm).1 V;omega
   rw [oN (by omega)]
   exact Dy _▸hnot
  have honly: ∀i∈Region.ready .any L.toArray done,i=m:=by
   intro i hi
   obtain⟨hun,p,hp,hwait⟩:=um.1 hi
   have hp' :L[i]? =some p:=by simpa using hp
   have hil:i<L.length:=(o5.1 hp').1
   have hid: ¬i<m:=fun hlt=>by
    have V:=(hdone i hil).2 hlt
    rw [oN (by omega)]at hun
    rw [hun]at V;cases V
   rcases lZ m i with hlt|hge
   ·exfalso
    have hcov:=hc i p (by omega) hp'
    unfold xo at hcov
    have hre:=mZ.1 hcov m (by simpa using hlt)
    have:done.getD m false=true:=by
     refine hY (L:=L) (done:=done) (fun j q hj hjd e he H=>?_) _ i m (fun q hq e he H=>?_) hre
     ·have hjl:j<L.length:=(o5.1 hj).1
      have hjm:=(hdone j hjl).1 hjd
      have:=hedge j q hj
      unfold fK at this
      have:=mZ.1 this e (by simpa using he)
      simp only [H,qg,An,sr]at this
      exact(hdone e.on (by omega)).2 (by omega)
     ·have:q=p:=by rw [hp']at hq;simpa using hq.symm
      subst this
      exact hwait e he H
    have:=(hdone m hm).1 this
    omega
   ·omega
  have hready:m∈Region.ready .any L.toArray done:=by
   rw [um]
   refine⟨hmu,o,by simpa using hLm,fun e he H=>?_⟩
   have:=hedge m o hLm
   unfold fK at this
   have:=mZ.1 this e (by simpa using he)
   simp only [H,qg,An,sr]at this
   exact(hdone e.on (by omega)).2 this
  cases fuel with
  |zero=>
   have:=va hu (i:=m) (by omega)
   have:=(hdone m hm).1 this
   omega
  |succ fuel=>
   refine⟨fun hr=>(by rw [hr]at hready;cases hready),fun i hi=>?_⟩
   have:=honly i hi
   subst this
   have hnext:=fun a w=>ih (i+1) (done.setIfInBounds i true) fuel a w (by omega) (by rw [<-uk,hdrop];rfl) (by simpa using hsz) (fun j hj=>by
    by_cases hij:i=j
    ·subst hij;have:i<done.size:=by omega
     simp [this]
    ·rw [xE false hij,hdone j hj];omega) (by have:=rr hmu;omega)
   unfold wpOpIn
   have hLm' :L.toArray[i]? =some o:=by simpa using hLm
   rw [hLm']
   show if _ then _ else _
   unfold wpListIn at h
   by_cases hw:Region.wanted o (yielded L.toArray a.tmps)=true
   ·rw [bv hw]at h ⊢;exact Oper.wpIn_mono (fun a w hk=>hnext a w hk) h
   ·rw [bm hw]at h ⊢;exact⟨h.1,hnext _ _ h.2⟩
def Lv{l t:List Oper}(hsl:wE E.N.n [] l=true)(hlen:ts.length=l.length)(hd:DR E O G (l++t) ts 0 l)(M:AH (l++t) l.length t.length=true)(hQ: ∀a w S,St E O (Oz l ts G) a w S->wpListIn (fw E.r) 0 E.P (l++t).toArray af t a w):
  ∀(fuel:Nat) (done:Array Bool) (a:Act) (w:World) (S:SH),lK done=fuel->(∀j,l.length<=j->done.getD j false=false)->DJ E O G (l++t) ts done a w S->wpAnyIn (fw E.r) 0 E.P .any (l++t).toArray af fuel done a w:=by
 have hL1: ∀i o,i<l.length->(l++t)[i]? =some o->l[i]? =some o:=fun i o hi h=>by rwa [Cf hi]at h
 have hL2: ∀i o,l[i]? =some o->(l++t)[i]? =some o:=fun i o h=>by rw [Cf (o5.1 h).1];exact h
 have htail: ∀m o,l.length<=m->(l++t)[m]? =some o->xo (l++t) m=true/\fK m o=true:=fun m o hm ho=>by
  have hml:m<(l++t).length:=(o5.1 ho).1
  rw [gA]at hml
  unfold AH at M
  have:=mZ.1 M (m-l.length) (by simp;omega)
  rw [show l.length+(m-l.length)=m from by omega,ho]at this
  simp only [gQ]at this
  exact⟨this.1,this.2.1⟩
 have hedge: ∀i o,(l++t)[i]? =some o->fK i o=true:=fun i o hi=>by
  rcases lZ i l.length with h|h
  ·obtain⟨_,_,_,_,_,h,_⟩:=DR.get l 0 hd i o (hL1 i o h hi)
   simpa using h
  ·exact(htail i o h hi).2
 obtain⟨hs1,hs2⟩:=yH l [] hsl
 have fin: ∀fuel done a w S,lK done=fuel->(∀j,l.length<=j->done.getD j false=false)->DJ E O G (l++t) ts done a w S->(∀i,i<l.length->done.getD i false=true)->wpAnyIn (fw E.r) 0 E.P .any (l++t).toArray af fuel done a w:=by
  intro fuel done a w S hu hfree h hall
  refine Be (n:=l.length) (fun m o hm ho=>(htail m o hm ho).1) hedge t l.length done fuel a w (gu _) (by simp) h.dsz (fun j hj=>⟨fun hjd=>?_,fun hlt=>hall j hlt⟩) hu
   (hQ a w S ⟨h.ext,h.sat,h.own,h.size,h.defers,fun j u hj=>?_⟩)
  ·rcases lZ j l.length with h' |h'
   ·exact h'
   ·rw [hfree j h']at hjd;cases hjd
  ·rcases Jo l ts j u (fun o ho e=>by obtain⟨aN,hd,_⟩:=hs1 o ho;rw [hd]at e;cases e) hlen hj with⟨i,o,A,V,h3⟩|⟨A,V⟩
   ·exact h.new i o j u (hL2 i o A) (hall i (o5.1 A).1) V h3
   ·refine h.old j u A fun i o ho hdn=>?_
    rcases lZ i l.length with h' |h'
    ·exact V o (sR (hL1 i o h' ho))
    ·rw [hfree i h']at hdn;cases hdn
 have lower: ∀done a w S i,(∀j,l.length<=j->done.getD j false=false)->DJ E O G (l++t) ts done a w S->i∈Region.ready .any (l++t).toArray done->l.length<=i-> ∀j,j<l.length->done.getD j false=true:=by
  intro done a w S i hfree h hi hge j hj
  obtain⟨hun,p,hp,hwait⟩:=um.1 hi
  have hp' :(l++t)[i]? =some p:=by simpa using hp
  have hcov:=(htail i p hge hp').1
  unfold xo at hcov
  have hre:=mZ.1 hcov j (by simp;omega)
  exact hY h.down _ i j (fun q hq e he H=>by
   have:q=p:=by rw [hp']at hq;simpa using hq.symm
   subst this
   exact hwait e he H) hre
 intro fuel
 induction fuel with
 |zero=>
  intro done a w S hu hfree h
  exact fin 0 done a w S hu hfree h fun i hi=>va hu (by rw [h.dsz,gA];omega)
 |succ fuel ih=>
  intro done a w S hu hfree h
  by_cases hall: ∀i,i<l.length->done.getD i false=true
  ·exact fin _ done a w S hu hfree h hall
  have hready0: ∀m i,i<m->i<l.length->Region.ready .any (l++t).toArray done=[]->done.getD i false=true:=by
   intro m
   induction m with
   |zero=>intro i h;omega
   |succ m ihm=>
    intro i him hil hr
    have his:i<done.size:=by rw [h.dsz,gA];omega
    by_cases hdn:done.getD i true=true
    ·rw [<-oN his];exact hdn
    ·exfalso
     obtain⟨o,ho⟩: ∃o,(l++t)[i]? =some o:=⟨l[i],hL2 i _ (qf hil)⟩
     have hmem:i∈Region.ready .any (l++t).toArray done:=by
      rw [um]
      refine⟨by simpa using hdn,o,by simpa using ho,fun e he H=>?_⟩
      have:=hedge i o ho
      unfold fK at this
      have:=mZ.1 this e (by simpa using he)
      simp only [H,qg,An,sr]at this
      exact ihm e.on (by omega) (by omega) hr
     rw [hr]at hmem;cases hmem
  refine⟨fun hr=>absurd (fun i hi=>hready0 (i+1) i (by omega) hi hr) hall,fun i hi=>?_⟩
  have hil:i<l.length:=by
   rcases lZ i l.length with h' |h'
   ·exact h'
   ·exact absurd (lower done a w S i hfree h hi h') hall
  obtain⟨hun,o,ho,hwait⟩:=um.1 hi
  have ho' :(l++t)[i]? =some o:=by simpa using ho
  have hol:=hL1 i o hil ho'
  obtain⟨needs,u,A,V,h3,_,h5⟩:=DR.get l 0 hd i o hol
  rw [rj]at A h3
  have hF:=h.need ho' hun hwait V h3
  have h6:=h5 a w S h.sat h.own hF
  have hu' :lK (done.setIfInBounds i true)=fuel:=by have:=rr hun;omega
  obtain⟨aN,hdd,hdN,_⟩:=hs1 o (sR hol)
  have huq: ∀j p,(l++t)[j]? =some p->done.getD j false=true->p.dst=some aN->i=j:=fun j p hj hjd hpd=>by
   rcases lZ j l.length with h' |h'
   ·exact hs2 i j o p hol (hL1 j p h' hj) (by rw [hdd,hpd])
   ·rw [hfree j h']at hjd;cases hjd
  have hfree' : ∀j,l.length<=j->(done.setIfInBounds i true).getD j false=false:=fun j hj=>by
   rw [xE false (by omega)];exact hfree j hj
  unfold wpOpIn
  rw [ho]
  show if _ then _ else _
  by_cases hw:Region.wanted o (yielded (l++t).toArray a.tmps)=true
  ·rw [bv hw]at h6 ⊢
   refine lv (fun a' w' ⟨v,S',ha,he,hs,hv⟩=>?_) h6
   subst ha
   exact ih _ _ _ S' hu' hfree' (h.stepT ho' hdd hdN huq hwait A hun he hs hv)
  ·rw [bm hw]at h6 ⊢
   exact⟨fun _ _=>trivial,ih _ _ _ S hu' hfree' (h.stepT ho' hdd hdN huq hwait A hun (kx.refl _ _ _) h.sat h6)⟩
def VW{id:Nat}{l t:List Oper}(hL:L=l++t)(hm:E.P.follows .mixedOrders=true)(hsl:wE E.N.n [] l=true)(hlen:ts.length=l.length)(M:AH L l.length t.length=true)(hd:DR E O G L ts 0 l)(k:RG E L.toArray af t O (Oz l ts G)):CG E af (.region id L.toArray true) O G:=fun a w S st=>by
 subst hL
 refine wpIn_region_any hm ?_
 obtain⟨he,hs⟩:=Dv (w:=w) st.sat
 refine Lv hsl hlen hd M (fun a w S st=>k a w S st) _ _ _ _ S ?_ (fun j _=>?_)
  ⟨st.ext.step0 he,hs,st.own.ext0 he,st.facts.size,st.facts.defers,by simp,fun j o hj hdone=>?_,fun k t hk _=>st.facts.at_ k t hk,fun j o aN t hj hdone=>?_⟩
 ·unfold lK;rw [Qe,PY];simp
 ·simp [Ba];split<;>rfl
 ·simp [Ba]at hdone
  split at hdone<;>simp at hdone
 ·simp [Ba]at hdone
  split at hdone<;>simp at hdone

abbrev It(α:Type):=(σ:Type)->(α->σ->Option (Bool×σ))->σ->Option σ

def du.weak: ∀{O:List OE},du base B w S O->du 0 uc w S O
 |[],_=>trivial
 |_::_,⟨A,V,h3⟩=>⟨⟨A.1,fun _ _=> .inl (jv _)⟩,V,du.weak h3⟩
def Aj: ∀{O:List OE},du 0 uc w S O->(∀f∈O,∀k,f.fp k->base<=k\/B k)->du base B w S O
 |[],_,_=>trivial
 |_::_,⟨A,V,h3⟩,h=>⟨⟨A.1,h _ (lg ..)⟩,V,Aj h3 fun f hf=>h f (li _ hf)⟩
section
variable{ty:TypeId}
end
def Q3:List OE->List OE->Prop
 |[],_=>True
 |f::O,g::O' =>(∀k,f.fp k->g.fp k)/\Q3 O O'
 |_::_,[]=>False
def Q3.mem: ∀{O O' :List OE},Q3 O O' -> ∀k,(∃f∈O,f.fp k)-> ∃f∈O',f.fp k
 |f::O,g::O',⟨A,V⟩,k,⟨q,hq,hk⟩=>by
  rcases f7.1 hq with e|e
  ·subst e;exact⟨g,lg ..,A k hk⟩
  ·obtain⟨q',h3,h4⟩:=Q3.mem V k ⟨q,e,hk⟩
   exact⟨q',li _ h3,h4⟩

variable{O1:List OE}{ι:Type}{O2:ι->List OE}
def p9: ∀{O1 O2:List OE},du base B w S (O1++O2)->du base B w S O1/\du base B w S O2/\ ∀e∈O1,∀f∈O2,e.apart f
 |[],_,h=>⟨trivial,h,fun _ h=>(by cases h)⟩
 |e::O1,O2,⟨A,V,h3⟩=>by
  obtain⟨k1,k2,k3⟩:=p9 h3
  refine⟨⟨A,fun f hf=>V f (F4 _ hf),k1⟩,k2,fun g hg f hf=>?_⟩
  rcases f7.1 hg with rfl|hg
  ·exact V f (PZ _ hf)
  ·exact k3 g hg f hf
def du.cons{e:OE}(A:e.holds base B w S)(V: ∀f∈O,e.apart f)(h3:du base B w S O):du base B w S (e::O):=⟨A,V,h3⟩

section
section
variable{ty:TypeId}
end
end


section
variable{R:Ending->World->Prop}{ds:List Deferred}
end
def rT(t:Ty):Rp Unit where
 sz:=1
 agg:=false
 rc:=fun S cs _=> ∃v,cs=[v]/\v.oneCell' =true/\t.p S v
 mono:=fun h ⟨v,e,k,l⟩=>⟨v,e,k,t.mono h l⟩
 len:=fun⟨_,e,_⟩=>by rw [e];rfl
 one:=fun⟨v,e,k,_⟩ c hc=>by rw [e]at hc;simp at hc;subst hc;exact k
 sc:=fun _=>rfl
def tRT{t:Ty}{u:Unit}{v:Value}:(K (rT t) u).p S v↔v.oneCell' =true/\t.p S v:=by
 constructor
 ·rintro⟨cs,rfl,w,rfl,A,V⟩;exact⟨A,V⟩
 ·rintro⟨A,V⟩;exact⟨[v],rfl,v,rfl,A,V⟩
variable{k' :IntKind}{lo:Int}
section
variable{ty:TypeId}
def ce.imp{t u:Ty}(h:ce E O G o t)(k: ∀S v,t.p S v->u.p S v):ce E O G o u:=fun a w S hs ho hf=>
 oK (fun _ _ ⟨v,S',A,V,h3,h4⟩=>⟨v,S',A,V,h3,k S' v h4⟩) (h a w S hs ho hf)
def QH{args:α->List Ty}{res:β->Ty}{f:α->Option β}(D:aL E.N G x (gZ E.P args res f)):ce E O G ⟨dst,.box T x,ty,pos,after,g⟩ (bt (rT (gZ E.P args res f)) ()):=
 OF (fun S a hf=>tRT.2 ⟨by obtain⟨_,_,e,_⟩:=D S a hf;rw [e];rfl,D S a hf⟩)
def pp{t:Ty}{p:Operand}(ti:TI E.P U 1 bytes false z)(hp:aL E.N G p (bt (rT t) ())):ce E O G ⟨dst,.load U p,ty,pos,after,g⟩ t:=
 (nO (r:=rT t) (x:=()) ti rfl rfl hp).imp fun _ _ h=>(tRT.1 h).2

def YH:rV.rc S [.slice none 0 0] (Y none 0 0):=⟨rfl,rfl⟩
def Nz{N:Fr}(h:aL N G x (Z (Y l cap n))):aL N G x (K rV (Y l cap n)):=fun S a hf=>zK.2 ⟨h S a hf,by cases l<;>rfl⟩
def wj{p:Operand}(ti:TI E.P U 1 bytes false z)(hm:bx rV T b (Y l cap n)∈O)(hp:aL E.N G p (Z (al b 0))):
  ce E O G ⟨dst,.load U p,ty,pos,after,g⟩ (Z (Y l cap n)):=(bn (q:=rV) (get:=fun x=>x) ti rfl rfl cg hm hp).imp fun _ _ h=>(zK.1 h).1

def dH{α:Type}(xs:List α)(lo hi:Int):Option (List α):=if 0<=lo/\lo<=hi/\hi<=(xs.length:Int)then some ((xs.take hi.toNat).drop lo.toNat)else none
def gT(h:dH xs lo hi=some ys): ∃l m:Nat,lo=l/\hi=m/\l<=m/\m<=xs.length/\ys=(xs.take m).drop l:=by
 unfold dH at h
 split at h
 ·rename_i hc
  exact⟨lo.toNat,hi.toNat,by omega,by omega,by omega,by omega,by simpa using h.symm⟩
 ·cases h
def Bk{a:Option Addr}{l:Nat}(h:LF r S a xs)(hl:l<=m)(hm:m<=xs.length)(hc:xs.length<=cap):
  LF r S (if cap=l then a else a.map (·.add (l*r.sz))) ((xs.take m).drop l):=by
 by_cases hlm:l=m
 ·left;subst hlm;simp
 right
 rcases h with h|⟨b,off,c,T,fr,e1,e2,e3⟩
 ·subst h;simp at hm;omega
 subst e1
 have hne: ¬(cap=l):=by omega
 refine⟨b,off+l*r.sz,c,T,fr,?_,e2,?_⟩
 ·rw [bm hne];simp [Addr.add]
 have hlen:((xs.take m).drop l).length=m-l:=by simp;omega
 have e4:xs=(xs.take m).take l++((xs.take m).drop l++xs.drop m):=by
  rw [<-gI,ra,ra]
 have A:((xs.take m).take l).length=l:=by simp;omega
 rw [e4]at e3
 have V:=(pZ e3).2
 have h3:=(pZ V).1
 rw [A]at h3
 rw [hlen]at h3 ⊢
 rw [<-e4]at h3
 rw [yq,B0,uk]at h3
 have hmin:min ((m-l)*r.sz) (xs.length*r.sz-l*r.sz)=(m-l)*r.sz:=by
  rw [<-Nat.sub_mul];exact A7 (ya _ (by omega))
 rwa [hmin]at h3
def qt{n:Int}{y:Nat}{code:BoundsCode}(h0:0<=n)(A:n<=y):(Instr.sliceBound (.int k n) y code).run P w= .ok n.toNat w:=by
 simp [Instr.sliceBound,asIntOf,h0,A]
def m8{hi:Operand}(M:E.P.underlying t=some (.slice T))(ti:TI E.P T sz bytes agg z)(hsz:r.sz=sz)(D:aL E.N G x (K (fJ r) xs))(hhi:aL E.N G hi (K (rI k') j))(h:dH xs 0 j=some ys):ce E O G ⟨dst,.slice t x none (some hi) none,ty,pos,after,g⟩ (K (fJ r) ys):=
 .of_pure fun a w S _ _ hf=>by
  subst hsz
  obtain⟨ad,cap,A,V,h3,h4⟩:=m4.1 (D S a hf)
  have h6:=f8.1 (hhi S a hf)
  obtain⟨l,m,hl,rfl,h7,h8,rfl⟩:=gT h
  have hl0:l=0:=by omega
  subst hl0
  have hlen:((xs.take m).drop 0).length=m-0:=by simp;omega
  refine⟨.slice (if cap=0 then ad else ad.map (·.add (0*r.sz))) (m-0) (cap-0),?_,m4.2 ⟨_,cap-0,by rw [hlen],by omega,by omega,Bk h4 h7 h8 V⟩⟩
  simp [execOp,Instr.sliceAt,A,h6,Instr.slice,jx M,Instr.sliceBounds,qt (k:=k') (n:=(m:Int)) (y:=cap) (by omega) (by omega),ti.sizeOf]
def OB{lo:Operand}{i:Int}(M:E.P.underlying t=some (.slice T))(ti:TI E.P T sz bytes agg z)(hsz:r.sz=sz)(D:aL E.N G x (K (fJ r) xs))(hlo:aL E.N G lo (K (rI k) i))(h:dH xs i (xs.length:Int)=some ys):ce E O G ⟨dst,.slice t x (some lo) none none,ty,pos,after,g⟩ (K (fJ r) ys):=
 .of_pure fun a w S _ _ hf=>by
  subst hsz
  obtain⟨ad,cap,A,V,h3,h4⟩:=m4.1 (D S a hf)
  have h5:=f8.1 (hlo S a hf)
  obtain⟨l,m,rfl,hm,h7,h8,rfl⟩:=gT h
  have hm' :m=xs.length:=by omega
  subst hm'
  have hlen:((xs.take xs.length).drop l).length=xs.length-l:=by simp
  refine⟨.slice (if cap=l then ad else ad.map (·.add (l*r.sz))) (xs.length-l) (cap-l),?_,m4.2 ⟨_,cap-l,by rw [hlen],by omega,by omega,Bk h4 h7 h8 V⟩⟩
  simp [execOp,Instr.sliceAt,A,h5,Instr.slice,jx M,Instr.sliceBounds,qt (k:=k) (n:=(l:Int)) (y:=xs.length) (by omega) (by omega),ti.sizeOf]
end
def oz{id:Nat}(m:Nat)(hm:E.P.follows .mixedOrders=true)(hsl:wE E.N.n [] (L.take m)=true)(hlen:ts.length=(L.take m).length)(M:AH L (L.take m).length (L.drop m).length=true)(hd:DR E O G L ts 0 (L.take m))(k:RG E L.toArray af (L.drop m) O (Oz (L.take m) ts G)):CG E af (.region id L.toArray true) O G:=VW (ra m L).symm hm hsl hlen M hd k

def kw(P:Program){α:Type} [DecidableEq α](t:TypeId)(r:Rp α)(n:Nat):Prop:=
 ∀(S:SH) (cs ds:List Value) (x y:α) (aN:Nat) (w:World),r.rc S cs x->r.rc S ds y->(Op.equalIn (aN+n) t (r.val cs) (r.val ds)).run P w= .ok (decide (x=y)) w
def tP(h:P.underlying t=some (.int k')):kw P t (rI k) (n+1):=fun S cs ds x y aN w D hy=>by
 have A:cs=[.int k x]:=D
 have V:ds=[.int k y]:=hy
 subst A V
 have:(Op.equalIn (aN+n+1) t (.int k x) (.int k y)).run P w= .ok (x==y) w:=by simp [Op.equalIn,jx h]
 have e:(x==y)=decide (x=y):=by by_cases h:x=y<;>simp [h]
 rw [e]at this
 exact this
def Vn(h:P.underlying t=some .bool):kw P t rB (n+1):=fun S cs ds x y aN w D hy=>by
 have A:cs=[.bool x]:=D
 have V:ds=[.bool y]:=hy
 subst A V
 have:=run_equalIn_bool' (P:=P) w (aN+n) t x y h
 simp only [Rp.val,rB,List.headD_cons,lh,jB]
 rw [show aN+(n+1)=aN+n+1 from rfl,this]
 cases x<;>cases y<;>rfl
def K7(h:P.underlying t=some .string):kw P t rS (n+1):=fun S cs ds x y aN w D hy=>by
 have A:cs=[.string ⟨x.toArray⟩]:=D
 have V:ds=[.string ⟨y.toArray⟩]:=hy
 subst A V
 have:=run_equalIn_string (P:=P) w (aN+n) t ⟨x.toArray⟩ ⟨y.toArray⟩ h
 simp only [Rp.val,rS,List.headD_cons,lh,jB]
 rw [show aN+(n+1)=aN+n+1 from rfl,this]
 simp only [ByteArray.toList_eq]
 by_cases e:x=y<;>simp [e]
abbrev Fd:=TypeId×Nat×Bool
def Pb(f:Field):Fd:=(f.type,f.offset,f.name== "_")
def SQ(aN:Nat)(xs ys:Array Value):List Fd->Sem Bool
 |[]=>pure true
 |f::fs=>
  if f.2.2=false then do
   let a<-part f.1 xs f.2.1
   let b<-part f.1 ys f.2.1
   let r<-Op.equalIn aN f.1 a b
   if(!r)=true then pure false else SQ aN xs ys fs
  else SQ aN xs ys fs
def ML(aN:Nat)(xs ys:Array Value): ∀fs:List Field,Op.eqFields aN xs ys fs=SQ aN xs ys (fs.map Pb)
 |[]=>rfl
 |f::fs=>by
  unfold Op.eqFields SQ
  rw [ML aN xs ys fs]
  by_cases h:f.name= "_"
  ·have e:((Pb f).2.2=false)=False:=by simp [Pb,h]
   simp only [pE,e,jB]
   rw [bm (by simpa using h)]
  ·have e:((Pb f).2.2=false)=True:=by simp [Pb,h]
   simp only [pE,e,i8]
   rw [bv (by simpa using h)]
   rfl
def Ik(P:Program){α:Type}(r:Rp α)(n:Nat)(fs:List Fd)(c:α->α->Bool):Prop:=
 ∀(S:SH) (cs ds:List Value) (x y:α) (aN:Nat) (w:World),r.rc S cs x->r.rc S ds y->(SQ (aN+n) cs.toArray ds.toArray fs).run P w= .ok (c x y) w
def Ik.nil:Ik P r n [] (fun _ _=>true):=fun _ _ _ _ _ _ _ _ _=>rfl
def qu(ti:TI P t sz bytes agg z)(hsz:q.sz=sz)(hag:q.agg=agg)(hf:ju r off q get){cs:List Value}{x:α}(D:r.rc S cs x)(w:World):
  (part t cs.toArray off).run P w= .ok (q.val ((cs.drop off).take q.sz)) w:=by
 have h:=hf S cs x D
 have hl:=q.len h
 subst hsz hag
 unfold part
 by_cases ha:q.agg=true
 ·have e1:=ti.isAgg w
  simp only [qZ,e1,ha,sq,i8,ti.sizeOf,EK]
  unfold Rp.val
  rw [bv ha]
  congr 2
  apply Array.ext'
  simp
 ·rw [Dy]at ha
  have e1:=ti.isAgg w
  have hs1:=q.sc ha
  simp only [qZ,e1,ha,sq,lh,jB]
  rw [hs1]at hl ⊢
  obtain⟨v,hv⟩:=List.length_eq_one_iff.1 hl
  have hc:cs[off]? =some v:=by
   have:((cs.drop off).take 1)[0]? =some v:=by rw [hv];rfl
   rw [DA (by omega),wz]at this
   simpa using this
  unfold Rp.val
  rw [hv,ha]
  simp [hc]
def Ik.cons [DecidableEq β]{t:Nat}{fs:List Fd}{c:α->α->Bool}(ti:TI P t sz bytes agg z)(hsz:q.sz=sz)(hag:q.agg=agg)(hf:ju r off q get)(he:kw P t q n)(hr:Ik P r n fs c):
  Ik P r n ((t,off,false)::fs) (fun x y=>decide (get x=get y)&&c x y):=fun S cs ds x y aN w D hy=>by
 have A:=qu ti hsz hag hf D w
 have V:=qu ti hsz hag hf hy w
 have h3:=he S _ _ _ _ aN w (hf S cs x D) (hf S ds y hy)
 unfold SQ
 simp only [i8,qZ,A,V,h3,sq]
 by_cases e:get x=get y
 ·simp only [e,decide_true,qg,lh,jB,vG]
  exact hr S cs ds x y aN w D hy
 ·simp [e]
def xl [DecidableEq α]{t:Nat}{fs:List Fd}{c:α->α->Bool}(M:(P.underlying t).map (fun aN=>match aN with| .struct l=>(true,l.toList.map Pb)|_=>(false,[]))=some (true,fs))(hp:P.stoodInHeld t=false)(ha:r.agg=true)(hr:Ik P r n fs c)(hc: ∀x y,c x y=decide (x=y)):kw P t r (n+1):=fun S cs ds x y aN w D hy=>by
 obtain⟨l,A,V⟩: ∃l,P.underlying t=some (.struct l)/\l.toList.map Pb=fs:=by
  cases hu:P.underlying t with
  |none=>rw [hu]at M;cases M
  |some aN=>
   rw [hu]at M
   cases aN<;>simp at M
   exact⟨_,rfl,M⟩
 have hfo:P.fieldsOf t=l:=by unfold Program.fieldsOf;rw [A]
 have:=run_equalIn_struct (P:=P) w (aN+n) t cs.toArray ds.toArray (by rw [hfo];exact A) hp
 rw [tu ha,tu ha,show aN+(n+1)=aN+n+1 from rfl,this,hfo,ML,V,hr S cs ds x y aN w D hy,hc]
def jC [DecidableEq α](h:kw P t r n)(m:Nat):kw P t r (m+n):=fun S cs ds x y aN w D hy=>by
 have:=h S cs ds x y (aN+m) w D hy
 rwa [Nat.add_assoc]at this
def NC.of [DecidableEq α](hg:P.eqGuardType P.depth t=false)(h:kw P t r 20):NC P t r:=⟨hg,fun S cs ds x y aN w D hy=>h S cs ds x y aN w D hy⟩

def zm{l:List α}{e:α}(h:xs.drop i=e::l):decide ((i:Int)<(xs.length:Int))=true:=by
 have:i<xs.length:=by
  rcases lZ i xs.length with h' |h'
  ·exact h'
  ·rw [Qb h']at h;cases h
 simp;omega
def Da(h:xs.drop i=[]):decide ((i:Int)<(xs.length:Int))=false:=by
 have:=Gc.1 h
 simp;omega
def eg{l:List α}{e:α}(h:xs.drop i=e::l):xs.drop (i+1)=l:=by
 rw [<-uk,h];rfl
def d6{l:List α}{e:α}(h:xs.drop i=e::l):ep xs (i:Int)=some e:=by
 rw [fE]
 have:=wz (xs:=xs) (i:=i) (j:=0)
 rw [h]at this
 simpa using this.symm
def A1{l:List α}{e:α}(h:xs.drop i=e::l)(hN:xs.length<=maxLen):i<9223372036854775807:=by
 have:=of_decide_eq_true (zm h)
 simp only [maxLen]at hN
 omega
def UC{k:Nat}(h:N-i=k+1):decide ((i:Int)<(N:Int))=true:=by simp;omega
def UD(h:N-i=0):decide ((i:Int)<(N:Int))=false:=by simp;omega
def Sv{k:Nat}(h:N-i=k+1):N-(i+1)=k:=by omega
def Sw{k:Nat}(h:N-i=k+1)(hN:N<=9223372036854775807):i<9223372036854775807:=by omega
def aaR(h:n<=maxLen):n<=9223372036854775807:=by simp only [maxLen]at h;omega
variable{ix:Operand}{zs:List α}
section
variable{e:Exit}
section
variable{ty:TypeId}
def mh{one:Operand}{xt yt:TypeId}(hi:i<9223372036854775807)(D:aL E.N G x (K (rI .i64) (i:Int)))(A:aL E.N G one (K (rI .i64) 1)):
  ce E O G ⟨dst,.binOp .add xt x one yt,ty,pos,after,g⟩ (K (rI .i64) ((i+1:Nat):Int)):=by
 have e:IntKind.i64.wrap ((i:Int)+1)=((i+1:Nat):Int):=by
  rw [Ao];omega
 have:=vO (E:=E) (O:=O) (dst:=dst) (ty:=ty) (pos:=pos) (after:=after) (g:=g) (xt:=xt) (yt:=yt) D A
 rwa [e]at this
end
def fQ(hm:ku mm r T l cap xs∈O)(h:xs.length<=maxLen->CG E af c O G):CG E af c O G:=fun a w S st=>by
 refine h ?_ a w S st
 obtain⟨cells,A,_⟩:=(st.own.mem _ hm).1
 cases l with
 |none=>have:=A.1;omega
 |some b=>obtain⟨cur,_,g2,g3,_⟩:=A;exact nA g2 g3
def St.dataAt{k:Nat}(h:St E O G a w S)(hk:look G k=some (tO r l cap xs)):St E O ((k,K (fJ r) xs)::G) a w S:=h.cons (h.facts.at_ k _ hk).2
def ED(k:Nat)(hk:look G k=some (tO r l cap xs))(h:CG E af c O ((k,K (fJ r) xs)::G)):CG E af c O G:=fun a w S st=>h a w S (st.dataAt hk)
def qb(k:Nat)(hk:look G k=some (tO r l cap xs))(h:AT E af e O ((k,K (fJ r) xs)::G)):AT E af e O G:=fun a w S st=>h a w S (st.dataAt hk)
def bh(l:Option Nat)(off:Nat):Value:=
 match l with
 |none=> .pointer none
 |some b=>al b off
def nE(h:Ax mm r T l cap xs w S){e:α}(hi:xs[i]? =some e):
  ∃b cur,l=some b/\w.heap[b]? =some (.cells cur T (0,0))/\xs.length<=cap/\cur.size=cap*r.sz/\r.rc S ((cur.toList.drop (i*r.sz)).take r.sz) e:=by
 obtain⟨cells,A,V,_⟩:=h
 have hlt:=(o5.1 hi).1
 cases l with
 |none=>have:=A.1;omega
 |some b=>
  obtain⟨cur,g1,g2,g3,g4,g5⟩:=A
  refine⟨b,cur,rfl,g1,g2,g4,?_⟩
  have h3:=wQ V hi
  rw [<-g5,yq,B0]at h3
  have h4:i*r.sz+r.sz<=xs.length*r.sz:=by
   rw [<-EG];exact ya _ hlt
  rwa [A7 (by omega)]at h3
def eM{i:Int}{e:α}(h:ep xs i=some e):0<=i/\xs[i.toNat]? =some e:=by
 unfold ep at h
 split at h
 ·exact⟨by assumption,h⟩
 ·cases h
section
variable{ty:TypeId}
def bo{e:TypeId}{i:Int}(M:E.P.underlying t=some (.slice e))(ti:TI E.P e sz bytes agg z)(hm:ku mm r U l cap xs∈O)(D:aL E.N G x (Z (Y l cap n)))(hi:aL E.N G ix (K (rI k) i))(hy:ep xs i=some y)(hn:n=xs.length:=by rfl):
  ce E O G ⟨dst,.indexAddr t x ix,ty,pos,after,g⟩ (Z (bh l (i.toNat*sz+0))):=
 .of_pure fun a w S _ ho hf=>by
  subst hn
  have A:a.eval x=Y l cap xs.length:=D S a hf
  have h3:a.eval ix= .int k i:=f8.1 (hi S a hf)
  obtain⟨h0,hy'⟩:=eM hy
  obtain⟨b,cur,rfl,_⟩:=nE (ho.mem _ hm).1 hy'
  have hlt:i.toNat<xs.length:=(o5.1 hy').1
  refine⟨_,?_,rfl⟩
  have hc:0<=i/\i<(xs.length:Int):=⟨h0,by omega⟩
  simp [execOp,A,h3,Y,Instr.indexAt,asIntOf,jx M,hc,ti.sizeOf,iU,bh,al]
def cb{foff:Nat}{i:Int}{p:Operand}(ti:TI E.P T sz bytes agg z)(hsz:q.sz=sz)(hag:q.agg=agg)(hget:ju r foff q get)(hoff:Nat.ble (foff+q.sz) r.sz=true)(hm:ku mm r U l cap xs∈O)(hy:ep xs i=some y)(hp:aL E.N G p (Z (bh l (i.toNat*r.sz+foff)))):ce E O G ⟨dst,.load T p,ty,pos,after,g⟩ (K q (get y)):=
 .of_pure fun a w S _ ho hf=>by
  have A:a.eval p=bh l (i.toNat*r.sz+foff):=hp S a hf
  obtain⟨h0,hy'⟩:=eM hy
  obtain⟨b,cur,rfl,H,_,_,h6⟩:=nE (ho.mem _ hm).1 hy'
  have hoff' :=rm hoff
  have h7:=hget S _ _ h6
  rw [yq,B0,uk,A7 (by omega)]at h7
  refine⟨_,?_,_,rfl,h7⟩
  simp [execOp,A,bh,al,Instr.loadAt,Instr.sureAddr,iu ti H hsz hag h7]
def vM{o:Nat}{p:Operand}(hf:bp E.P T i=some (off,sz))(h0:Nat.beq sz 0=false)(hm:ku mm r U l cap xs∈O)(hy:ep xs j=some y)(hp:aL E.N G p (Z (bh l o))):
  ce E O G ⟨dst,.fieldAddr T p i,ty,pos,after,g⟩ (Z (bh l (o+off))):=
 .of_pure fun a w S _ ho hF=>by
  have A:a.eval p=bh l o:=hp S a hF
  obtain⟨_,hy'⟩:=eM hy
  obtain⟨b,cur,rfl,_⟩:=nE (ho.mem _ hm).1 hy'
  obtain⟨fs,f,e1,e2,e3,e4⟩:=D0 hf
  have h0' :sz≠0:=fun e=>by subst e;simp at h0
  refine⟨_,?_,rfl⟩
  simp [execOp,A,bh,al,Instr.fieldAt,jx e1,e2,Instr.sureAddr,fieldPlace,e4,h0',e3,iU]
end
def wP{α:Type}{r:Rp α}{S:SH}{y:α}{c:List Value}(hc:r.rc S c y): ∀{xs:List α} {i:Nat} {cs:List Value},qc r S cs xs->i<xs.length->qc r S (cs.take (i*r.sz)++c++cs.drop (i*r.sz+r.sz)) (xs.set i y)
 |[],_,_,_,h=>by simp at h
 |x::xs,0,cs,⟨a,b,e,A,V⟩,_=>by
  have hl:=r.len A
  refine⟨c,b,?_,hc,V⟩
  rw [e,<-hl];simp
 |x::xs,i+1,cs,⟨a,b,e,A,V⟩,h=>by
  have hl:=r.len A
  have ih:=wP hc V (i:=i) (by simpa using h)
  refine⟨a,_,?_,A,ih⟩
  have e1:(i+1)*r.sz=a.length+i*r.sz:=by rw [hl,xX];omega
  rw [e,e1,List.take_length_add_append,Nat.add_assoc,List.drop_length_add_append]
  simp
def ir{foff:Nat}{v:β}{i:Int}{p:Operand}{ty:TypeId}(ti:TI E.P T sz bytes agg z)(hsz:q.sz=sz)(hset:fm r foff q set)(hoff:Nat.ble (foff+q.sz) r.sz=true)(hy:ep xs i=some y)(hz:xs.set i.toNat (set y v)=zs)(hp:aL E.N G p (Z (bh l (i.toNat*r.sz+foff))))(D:aL E.N G x (K q v))(k:RG E ops af rest (dv r U l cap zs::O) G):
  RG E ops af (⟨none,.store T p x,ty,pos,after,none⟩::rest) (dv r U l cap xs::O) G:= .of rfl fun a w S st=>by
 subst hz
 have A:a.eval p=bh l (i.toNat*r.sz+foff):=hp S a st.facts
 obtain⟨ds,V,h3⟩:=D S a st.facts
 obtain⟨h0,hy'⟩:=eM hy
 have hlt:i.toNat<xs.length:=(o5.1 hy').1
 obtain⟨cells,hraw,hrc,hno⟩:=st.own.1.1
 obtain⟨b,cur,rfl,H,hle,hcs,h6⟩:=nE st.own.1.1 hy'
 obtain⟨cur',hb',hle',hmax,hcs',hct⟩:=hraw
 have hcc:cur' =cur:=by rw [H]at hb';injection hb' with e;injection e with e1;exact e1.symm
 subst hcc
 have hno' :S b=none:=hno b rfl
 have hoff' :=rm hoff
 have hl3:=q.len h3
 have hmul:i.toNat*r.sz+r.sz<=xs.length*r.sz:=by rw [<-EG];exact ya _ hlt
 have hmul2:xs.length*r.sz<=cur'.size:=by rw [hcs];exact ya _ hle
 obtain⟨w',hr,e1,e2,e3,e4,e5,e6⟩:=iD ti hsz h3 H (off:=i.toNat*r.sz+foff) (by omega)
 have hrun:(execOp a.eval ⟨none,.store T p x,ty,pos,after,none⟩).run E.P w= .ok .skip w' :=by
  simp [execOp,A,V,Instr.storeAt,bh,al,Instr.sureAddr,hr]
 refine⟨fun c h=>(by cases h),?_⟩
 rw [hrun]
 have hnew:=hset S _ _ _ _ h6 h3
 have hrc' :=wP hnew hrc hlt
 have hcl:=lx hrc
 have hcells:(cur'.toList.take (i.toNat*r.sz+foff)++ds++cur'.toList.drop (i.toNat*r.sz+foff+q.sz)).take (xs.length*r.sz)=
   cells.take (i.toNat*r.sz)++(((cur'.toList.drop (i.toNat*r.sz)).take r.sz).take foff++ds++((cur'.toList.drop (i.toNat*r.sz)).take r.sz).drop (foff+q.sz))++cells.drop (i.toNat*r.sz+r.sz):=by
  subst hct
  apply Ga
  intro j
  simp only [List.getElem?_take,List.getElem?_append,wz,ym,Fn,gA,Fo]
  rcases lZ j (xs.length*r.sz)with hj|hj
  ·simp only [hj,i8]
   rcases lZ j (i.toNat*r.sz)with hj1|hj1
   ·rw [bv (by omega),bv (by omega),bv (by omega),bv (by omega),bv (by omega),bv (by omega)]
   ·rcases lZ j (i.toNat*r.sz+foff)with hj2|hj2
    ·rw [bv (by omega),bv (by omega),bv (by omega),bv (by omega),bm (by omega),bv (by omega),bv (by omega),bv (by omega),bv (by omega)]
     congr 1;omega
    ·rcases lZ j (i.toNat*r.sz+foff+q.sz)with hj3|hj3
     ·rw [bv (by omega),bm (by omega),bv (by omega),bm (by omega),bv (by omega),bm (by omega)]
      congr 1;omega
     ·rw [bm (by omega)]
      rcases lZ j (i.toNat*r.sz+r.sz)with hj4|hj4
      ·rw [bv (by omega),bm (by omega),bm (by omega),bv (by omega)]
       congr 1;omega
      ·rw [bm (by omega),bv (by omega)]
       congr 1;omega
  ·rw [bm (by omega),bm (by omega),bm (by omega)]
 obtain⟨g1,g2,g3⟩:=ll (O:=O) st.sat (dv r U (some b) cap xs) (dv r U (some b) cap (xs.set i.toNat (set y v))) st.own (fun k=>⟨fun h=>(nR h).symm,fun h=>by rw [h];rfl⟩) (fun k=>⟨fun h=>(nR h).symm,fun h=>by rw [h];rfl⟩) ⟨e1,e2,e3,e4.1,e4.2⟩ e6
  ⟨_,⟨_,e5,by rw [vW];exact hle,hmax,by simp only [EQ,gA,ym,Fn,Fo];omega,by rw [vW];exact hcells⟩,hrc',fun k hk=>by rw [<-nR hk];exact hno'⟩ hno'
 exact k _ _ S ⟨st.ext.step g1 (fun c hc=>st.own.1.2 c (by rw [hc];rfl)),g2,g3,st.facts⟩

def nS(sz:Nat)(l:Option Nat)(cap lo n:Nat):Value:=
 match l with
 |none=> .slice none 0 0
 |some b=> .slice (some ⟨b,if cap=lo then 0 else lo*sz,none⟩) n (cap-lo)
section
variable{ty:TypeId}
def Jf(h:Ax mm r U l cap xs w S): ∃ad c,Y l cap xs.length= .slice ad xs.length c/\xs.length<=c/\ad=l.map (fun b=>⟨b,0,none⟩)/\(l=none->c=0/\xs=[])/\(l≠none->c=cap):=by
 obtain⟨cells,A,_⟩:=h
 cases l with
 |none=>
  have D:xs=[]:=wA A.1
  subst D
  exact⟨none,0,rfl,gu _,rfl,fun _=>⟨rfl,rfl⟩,fun h=>absurd rfl h⟩
 |some b=>
  obtain⟨cur,_,g2,_⟩:=A
  exact⟨_,cap,rfl,g2,rfl,fun h=>(by cases h),fun _=>rfl⟩
def vi{hi:Operand}(M:E.P.underlying t=some (.slice T))(ti:TI E.P T sz bytes agg z)(hsz:r.sz=sz)(hm:ku mm r U l cap xs∈O)(D:aL E.N G x (Z (Y l cap n)))(hhi:aL E.N G hi (K (rI k') j))(h:dH xs 0 j=some ys)(hn:n=xs.length:=by rfl):ce E O G ⟨dst,.slice t x none (some hi) none,ty,pos,after,g⟩ (Z (Y l cap ys.length)):=
 .of_pure fun a w S _ ho hf=>by
  subst hsz
  subst hn
  have A:a.eval x=Y l cap xs.length:=D S a hf
  obtain⟨ad,c,V,h3,h4,h5,h5'⟩:=Jf (ho.mem _ hm).1
  have h6:=f8.1 (hhi S a hf)
  obtain⟨lo,m,hl,rfl,h7,h8,rfl⟩:=gT h
  have hl0:lo=0:=by omega
  subst hl0
  have hlen:((xs.take m).drop 0).length=m:=by simp;omega
  refine⟨_,?_,rfl⟩
  rw [V]at A
  have hr:(execOp a.eval ⟨dst,.slice t x none (some hi) none,ty,pos,after,g⟩).run E.P w= .ok (.value (.slice ad m c)) w:=by
   simp [execOp,Instr.sliceAt,A,h6,Instr.slice,jx M,Instr.sliceBounds,qt (k:=k') (n:=(m:Int)) (y:=c) (by omega) (by omega),ti.sizeOf]
   cases ad<;>simp [Addr.add]
  rw [hr,hlen,h4]
  cases l with
  |none=>
   obtain⟨rfl,rfl⟩:=h5 rfl
   have:m=0:=by simpa using h8
   subst this;rfl
  |some b=>rw [h5' (by simp)];rfl
def sC{lo:Operand}{i:Int}(M:E.P.underlying t=some (.slice T))(ti:TI E.P T sz bytes agg z)(hsz:r.sz=sz)(hm:ku mm r U l cap xs∈O)(D:aL E.N G x (Z (Y l cap n)))(hlo:aL E.N G lo (K (rI k) i))(h:dH xs i (xs.length:Int)=some ys)(hn:n=xs.length:=by rfl):ce E O G ⟨dst,.slice t x (some lo) none none,ty,pos,after,g⟩ (Z (nS sz l cap i.toNat ys.length)):=
 .of_pure fun a w S _ ho hf=>by
  subst hsz
  subst hn
  have A:a.eval x=Y l cap xs.length:=D S a hf
  obtain⟨ad,c,V,h3,h4,h5,h5'⟩:=Jf (ho.mem _ hm).1
  have h6:=f8.1 (hlo S a hf)
  obtain⟨lo',m,rfl,hm',h7,h8,rfl⟩:=gT h
  have hm2:m=xs.length:=by omega
  subst hm2
  have hlen:((xs.take xs.length).drop lo').length=xs.length-lo' :=by simp
  refine⟨_,?_,rfl⟩
  rw [V]at A
  have hr:(execOp a.eval ⟨dst,.slice t x (some lo) none none,ty,pos,after,g⟩).run E.P w= .ok (.value (.slice (if c=lo' then ad else ad.map (·.add (lo' *r.sz))) (xs.length-lo') (c-lo'))) w:=by
   simp [execOp,Instr.sliceAt,A,h6,Instr.slice,jx M,Instr.sliceBounds,qt (k:=k) (n:=(lo' :Int)) (y:=xs.length) (by omega) (by omega),ti.sizeOf]
  rw [hr,hlen,h4]
  cases l with
  |none=>
   obtain⟨rfl,rfl⟩:=h5 rfl
   have:lo' =0:=by simpa using h7
   subst this;rfl
  |some b=>
   rw [h5' (by simp)]
   unfold nS
   simp only [wy,EN,iU,rj]
   split<;>rfl
def Bj{i:Int}(h:dH xs lo hi=some ys)(hy:ep ys i=some y):ep xs (lo+i)=some y/\0<=lo/\0<=i:=by
 obtain⟨l,m,rfl,rfl,A,V,rfl⟩:=gT h
 obtain⟨h0,h3⟩:=eM hy
 refine⟨?_,by omega,h0⟩
 obtain⟨j,rfl⟩: ∃j:Nat,i=j:=⟨i.toNat,by omega⟩
 rw [show((l:Int)+(j:Int))=((l+j:Nat):Int)from by omega,fE]
 rw [wz,wy]at h3
 have hlt:l+j<m:=by
  have:=(o5.1 h3).1
  simp at this;omega
 rwa [DA hlt]at h3
def AR{e:TypeId}{i:Int}(M:E.P.underlying t=some (.slice e))(ti:TI E.P e sz bytes agg z)(hsz:r.sz=sz)(hm:ku mm r U l cap xs∈O)(hs:dH xs lo hi=some ys)(D:aL E.N G x (Z (nS sz l cap lo.toNat ys.length)))(hi' :aL E.N G ix (K (rI k) i))(hy:ep ys i=some y):
  ce E O G ⟨dst,.indexAddr t x ix,ty,pos,after,g⟩ (Z (bh l ((lo+i).toNat*sz+0))):=
 .of_pure fun a w S _ ho hf=>by
  subst hsz
  have A:a.eval x=nS r.sz l cap lo.toNat ys.length:=D S a hf
  have h3:a.eval ix= .int k i:=f8.1 (hi' S a hf)
  obtain⟨hxi,hl0,hi0⟩:=Bj hs hy
  obtain⟨_,hx'⟩:=eM hxi
  obtain⟨b,cur,rfl,_,hle,_⟩:=nE (ho.mem _ hm).1 hx'
  have hlt:i.toNat<ys.length:=(o5.1 (eM hy).2).1
  have hlt2:(lo+i).toNat<xs.length:=(o5.1 hx').1
  have hne: ¬(cap=lo.toNat):=by omega
  refine⟨_,?_,rfl⟩
  have hc:0<=i/\i<(ys.length:Int):=⟨hi0,by omega⟩
  have e1:(lo+i).toNat=lo.toNat+i.toNat:=by omega
  simp [execOp,A,h3,nS,hne,Instr.indexAt,asIntOf,jx M,hc,ti.sizeOf,iU,bh,al,e1,xX]
def QF{e:TypeId}(M:E.P.underlying t=some (.slice e))(hm:ku mm r U l cap xs∈O)(hs:dH xs lo hi=some ys)(D:aL E.N G x (Z (nS sz l cap lo.toNat ys.length))):
  ce E O G ⟨dst,.call ⟨.builtin .len,#[x],#[t]⟩,ty,pos,after,g⟩ (K (rI .i64) (ys.length:Int)):=
 .of_pure fun a w S _ ho hf=>by
  have A:a.eval x=nS sz l cap lo.toNat ys.length:=D S a hf
  obtain⟨ad,c,h3⟩: ∃ad c,nS sz l cap lo.toNat ys.length= .slice ad ys.length c:=by
   cases l with
   |none=>
    obtain⟨_,V,_⟩:=(ho.mem _ hm).1
    have hx0:xs=[]:=wA V.1
    subst hx0
    obtain⟨l',m,_,_,_,h8,rfl⟩:=gT hs
    exact⟨none,0,by simp [nS]⟩
   |some b=>exact⟨_,_,rfl⟩
  refine⟨.int .i64 ys.length,?_,f8.2 rfl⟩
  simp [execOp,resolve,invoke,builtin,Builtin.len_,jx M,A,h3,goInt]
end
def XE(h:dH xs 0 j=some ys)(k:Ax false r U l cap xs w S):Ax false r U l cap ys w S:=by
 obtain⟨lo,m,hl,rfl,h7,h8,rfl⟩:=gT h
 have hl0:lo=0:=by omega
 subst hl0
 obtain⟨cells,A,V,h3⟩:=k
 have hlen:((xs.take m).drop 0).length=m:=by simp;omega
 have h4:qc r S (cells.take (m*r.sz)) (xs.take m):=by
  have e:xs=xs.take m++xs.drop m:=(ra _ _).symm
  rw [e]at V
  have:=(pZ V).1
  rwa [show(xs.take m).length=m from by simp;omega]at this
 refine⟨cells.take (m*r.sz),?_,by simpa using h4,fun b H=>h3 b H⟩
 rw [hlen]
 cases l with
 |none=>
  obtain⟨g1,g2⟩:=A
  exact⟨by omega,by rw [g2];simp⟩
 |some b=>
  obtain⟨cur,g1,g2,g3,g4,g5⟩:=A
  exact⟨cur,g1,by omega,g3,g4,by rw [<-g5,B0,A7 (ya _ h8)]⟩
def St.cut(h:dH xs 0 j=some ys)(st:St E (dv r U l cap xs::O) G a w S):St E (dv r U l cap ys::O) G a w S:=
 st.own_map fun ho=>⟨⟨XE h ho.1.1,ho.1.2⟩,ho.2.1,ho.2.2⟩
def Ll(h:dH xs 0 j=some ys)(k:RG E ops af rest (dv r U l cap ys::O) G):RG E ops af rest (dv r U l cap xs::O) G:=fun a w S st=>k a w S (st.cut h)
def AT.cut(h:dH xs 0 j=some ys)(k:AT E af e (dv r U l cap ys::O) G):AT E af e (dv r U l cap xs::O) G:=fun a w S st=>k a w S (st.cut h)
def LG.cut(h:dH xs 0 j=some ys)(k:LG E af c (dv r U l cap ys::O) G):LG E af c (dv r U l cap xs::O) G:=fun a w S st=>k a w S (st.cut h)
end

variable{x0 x1 x10 x11 x12 x2 x3 x4 x5 x6 x7 x8 x9:OE}
section
variable{e:Exit}
def uV{O:List OE}(h:du base B w S (x0::x1::x2::x3::x4::x5::O)):du base B w S (x5::x0::x1::x2::x3::x4::O):=
 (mR h uW (fun f hf=>by simp only [f7]at hf ⊢;rcases hf with h|h|h|h|h|h<;>simp [h])).swap
def Ai(h:RG E ops af rest (x5::x0::x1::x2::x3::x4::O) G):RG E ops af rest (x0::x1::x2::x3::x4::x5::O) G:=fun a w S st=>h a w S (st.own_map uV)
def lu(h:AT E af e (x5::x0::x1::x2::x3::x4::O) G):AT E af e (x0::x1::x2::x3::x4::x5::O) G:=fun a w S st=>h a w S (st.own_map uV)
def Tj(h:LG E af c (x5::x0::x1::x2::x3::x4::O) G):LG E af c (x0::x1::x2::x3::x4::x5::O) G:=fun a w S st=>h a w S (st.own_map uV)
def rN{O:List OE}(h:du base B w S (x0::x1::x2::x3::x4::x5::x6::O)):du base B w S (x6::x0::x1::x2::x3::x4::x5::O):=
 (mR h uV (fun f hf=>by simp only [f7]at hf ⊢;rcases hf with h|h|h|h|h|h|h<;>simp [h])).swap
def uh(h:RG E ops af rest (x6::x0::x1::x2::x3::x4::x5::O) G):RG E ops af rest (x0::x1::x2::x3::x4::x5::x6::O) G:=fun a w S st=>h a w S (st.own_map rN)
def JV(h:CG E af c (x6::x0::x1::x2::x3::x4::x5::O) G):CG E af c (x0::x1::x2::x3::x4::x5::x6::O) G:=fun a w S st=>h a w S (st.own_map rN)
def eG(h:AT E af e (x6::x0::x1::x2::x3::x4::x5::O) G):AT E af e (x0::x1::x2::x3::x4::x5::x6::O) G:=fun a w S st=>h a w S (st.own_map rN)
def uj(h:LG E af c (x6::x0::x1::x2::x3::x4::x5::O) G):LG E af c (x0::x1::x2::x3::x4::x5::x6::O) G:=fun a w S st=>h a w S (st.own_map rN)
def BV{O:List OE}(h:du base B w S (x0::x1::x2::x3::x4::x5::x6::x7::O)):du base B w S (x7::x0::x1::x2::x3::x4::x5::x6::O):=
 (mR h rN (fun f hf=>by simp only [f7]at hf ⊢;rcases hf with h|h|h|h|h|h|h|h<;>simp [h])).swap
def JY(h:AT E af e (x7::x0::x1::x2::x3::x4::x5::x6::O) G):AT E af e (x0::x1::x2::x3::x4::x5::x6::x7::O) G:=fun a w S st=>h a w S (st.own_map BV)
def xB{O:List OE}(h:du base B w S (x0::x1::x2::x3::x4::x5::x6::x7::x8::O)):du base B w S (x8::x0::x1::x2::x3::x4::x5::x6::x7::O):=
 (mR h BV (fun f hf=>by simp only [f7]at hf ⊢;rcases hf with h|h|h|h|h|h|h|h|h<;>simp [h])).swap
def Te(h:RG E ops af rest (x8::x0::x1::x2::x3::x4::x5::x6::x7::O) G):RG E ops af rest (x0::x1::x2::x3::x4::x5::x6::x7::x8::O) G:=fun a w S st=>h a w S (st.own_map xB)
def Tw(h:AT E af e (x8::x0::x1::x2::x3::x4::x5::x6::x7::O) G):AT E af e (x0::x1::x2::x3::x4::x5::x6::x7::x8::O) G:=fun a w S st=>h a w S (st.own_map xB)
def xA{O:List OE}(h:du base B w S (x0::x1::x2::x3::x4::x5::x6::x7::x8::x9::O)):du base B w S (x9::x0::x1::x2::x3::x4::x5::x6::x7::x8::O):=
 (mR h xB (fun f hf=>by simp only [f7]at hf ⊢;rcases hf with h|h|h|h|h|h|h|h|h|h<;>simp [h])).swap
def Tv(h:AT E af e (x9::x0::x1::x2::x3::x4::x5::x6::x7::x8::O) G):AT E af e (x0::x1::x2::x3::x4::x5::x6::x7::x8::x9::O) G:=fun a w S st=>h a w S (st.own_map xA)
def Ti(h:LG E af c (x9::x0::x1::x2::x3::x4::x5::x6::x7::x8::O) G):LG E af c (x0::x1::x2::x3::x4::x5::x6::x7::x8::x9::O) G:=fun a w S st=>h a w S (st.own_map xA)
def sK{O:List OE}(h:du base B w S (x0::x1::x2::x3::x4::x5::x6::x7::x8::x9::x10::O)):du base B w S (x10::x0::x1::x2::x3::x4::x5::x6::x7::x8::x9::O):=
 (mR h xA (fun f hf=>by simp only [f7]at hf ⊢;rcases hf with h|h|h|h|h|h|h|h|h|h|h<;>simp [h])).swap
def PL(h:RG E ops af rest (x10::x0::x1::x2::x3::x4::x5::x6::x7::x8::x9::O) G):RG E ops af rest (x0::x1::x2::x3::x4::x5::x6::x7::x8::x9::x10::O) G:=fun a w S st=>h a w S (st.own_map sK)
def ai(h:AT E af e (x10::x0::x1::x2::x3::x4::x5::x6::x7::x8::x9::O) G):AT E af e (x0::x1::x2::x3::x4::x5::x6::x7::x8::x9::x10::O) G:=fun a w S st=>h a w S (st.own_map sK)
def fX(h:LG E af c (x10::x0::x1::x2::x3::x4::x5::x6::x7::x8::x9::O) G):LG E af c (x0::x1::x2::x3::x4::x5::x6::x7::x8::x9::x10::O) G:=fun a w S st=>h a w S (st.own_map sK)
def sJ{O:List OE}(h:du base B w S (x0::x1::x2::x3::x4::x5::x6::x7::x8::x9::x10::x11::O)):du base B w S (x11::x0::x1::x2::x3::x4::x5::x6::x7::x8::x9::x10::O):=
 (mR h sK (fun f hf=>by simp only [f7]at hf ⊢;rcases hf with h|h|h|h|h|h|h|h|h|h|h|h<;>simp [h])).swap
def BT(h:RG E ops af rest (x11::x0::x1::x2::x3::x4::x5::x6::x7::x8::x9::x10::O) G):RG E ops af rest (x0::x1::x2::x3::x4::x5::x6::x7::x8::x9::x10::x11::O) G:=fun a w S st=>h a w S (st.own_map sJ)
def bX(h:AT E af e (x11::x0::x1::x2::x3::x4::x5::x6::x7::x8::x9::x10::O) G):AT E af e (x0::x1::x2::x3::x4::x5::x6::x7::x8::x9::x10::x11::O) G:=fun a w S st=>h a w S (st.own_map sJ)
def ff(h:LG E af c (x11::x0::x1::x2::x3::x4::x5::x6::x7::x8::x9::x10::O) G):LG E af c (x0::x1::x2::x3::x4::x5::x6::x7::x8::x9::x10::x11::O) G:=fun a w S st=>h a w S (st.own_map sJ)
def zD{O:List OE}(h:du base B w S (x0::x1::x2::x3::x4::x5::x6::x7::x8::x9::x10::x11::x12::O)):du base B w S (x12::x0::x1::x2::x3::x4::x5::x6::x7::x8::x9::x10::x11::O):=
 (mR h sJ (fun f hf=>by simp only [f7]at hf ⊢;rcases hf with h|h|h|h|h|h|h|h|h|h|h|h|h<;>simp [h])).swap
def BS(h:RG E ops af rest (x12::x0::x1::x2::x3::x4::x5::x6::x7::x8::x9::x10::x11::O) G):RG E ops af rest (x0::x1::x2::x3::x4::x5::x6::x7::x8::x9::x10::x11::x12::O) G:=fun a w S st=>h a w S (st.own_map zD)
def bD(h:AT E af e (x12::x0::x1::x2::x3::x4::x5::x6::x7::x8::x9::x10::x11::O) G):AT E af e (x0::x1::x2::x3::x4::x5::x6::x7::x8::x9::x10::x11::x12::O) G:=fun a w S st=>h a w S (st.own_map zD)
end

def dS(h:xs.set i y=zs):zs.length=xs.length:=by rw [<-h,vW]
section
def iW(hl:m=n)(s:Nat)(hs:look G s=some (Z (Y l cap n)))(k:RG E ops af rest O ((s,Z (Y l cap m))::G)):RG E ops af rest O G:=by
 subst hl
 exact fun a w S st=>k a w S (st.cons (st.facts.at_ s _ hs))
end

def fV{o1 o2:Nat}{g1:α->β}{g2:β->γ}(A:ju r o1 q g1)(V:ju q o2 s g2)(H:Nat.ble (o2+s.sz) q.sz=true:=by rfl):ju r (o1+o2) s (fun x=>g2 (g1 x)):=fun S cs x h=>by
 have h3:=V S _ _ (A S cs x h)
 have hb' :=rm H
 rwa [yq,B0,uk,A7 (by omega)]at h3
def j8{o1 o2:Nat}{g1:α->β}{u1:α->β->α}{u2:β->γ->β}(A:ju r o1 q g1)(k1:fm r o1 q u1)(k2:fm q o2 s u2)(H:Nat.ble (o2+s.sz) q.sz=true:=by rfl)(hc:Nat.ble (o1+q.sz) r.sz=true:=by rfl):
  fm r (o1+o2) s (fun x y=>u1 x (u2 (g1 x) y)):=fun S cs x ds y h hy=>by
 have hb' :=rm H
 have hc' :=rm hc
 have hl:=r.len h
 have h3:=k1 S cs x _ _ h (k2 S _ _ ds y (A S cs x h) hy)
 have e:cs.take (o1+o2)++ds++cs.drop (o1+o2+s.sz)=cs.take o1++(((cs.drop o1).take q.sz).take o2++ds++((cs.drop o1).take q.sz).drop (o2+s.sz))++cs.drop (o1+q.sz):=by
  rw [B0,A7 (by omega),yq,uk,List.take_add,show o1+(o2+s.sz)=o1+o2+s.sz from by omega]
  simp only [gI]
  congr 3
  have e2:cs.drop (o1+q.sz)=(cs.drop (o1+o2+s.sz)).drop (q.sz-(o2+s.sz)):=by rw [uk];congr 1;omega
  rw [e2,ra]
 rw [e];exact h3

def eJ(P:Program)(f:FuncId)(ts:List Ty)(O1:List OE){ι:Type}(t:ι->Ty)(O2:ι->List OE):Prop:=
 ∀w S vs,lV w S->Ay S ts vs->du 0 uc w S O1->Calls P f vs.toArray w fun en w' => ∃i v S',en= .returned v/\(t i).p S' v/\kx (fun k=> ∃f∈O1,f.fp k) w S w' S' /\lV w' S' /\du 0 uc w' S' (O2 i)/\ ∀k,(∃f∈O2 i,f.fp k)->(∃f∈O1,f.fp k)\/w.heap.size<=k
def Vq(E:En)(O1:List OE){ι:Type}(t:ι->Ty)(O2:ι->List OE):Ending->World->Prop:=fun en w' =>
 ∃i v S',en= .returned v/\(t i).p S' v/\kx E.B E.w0 E.S0 w' S' /\lV w' S' /\du 0 uc w' S' (O2 i)/\ ∀k,(∃f∈O2 i,f.fp k)->(∃f∈O1,f.fp k)\/E.w0.heap.size<=k
def NA(O1:List OE):Nat->Prop:=fun k=> ∃f∈O1,f.fp k
def eJ.of{t:ι->Ty}(hf:P.funcs[f]? =some fn)(H:fn.body=some c)(hN:fn.ntmps=N)(hn:Nat.ble ts.length N=true)(h: ∀w0 S0,CG ⟨P,⟨N,[]⟩,NA O1,w0,S0,none⟩ (bodyPost P fn (Vq ⟨P,⟨N,[]⟩,NA O1,w0,S0,none⟩ O1 t O2)) c O1 (AX 0 ts)):eJ P f ts O1 t O2:=by
 subst hN
 intro w S vs hs hv ho
 exact xu.1 (callsIn_of_wp (F:=fw none) (n:=0) hf H trivial (h w S _ w S ⟨kx.refl _ _ _,hs,Aj ho fun f hf k hk=> .inr ⟨f,hf,hk⟩,BM hv _ (rm hn)⟩))
def K8{t:ι->Ty}{v:Value}(st:St E O G a w S)(hB:E.B=NA O1)(i:ι)(hO:O=O2 i)(hv:(t i).p S v):Vq E O1 t O2 (.returned v) w:=by
 subst hO
 refine⟨i,v,S,rfl,hv,st.ext,st.sat,st.own.weak,fun k ⟨f,hf,hk⟩=>?_⟩
 rcases(du.mem st.own f hf).2 k hk with h|h
 ·exact .inr h
 ·rw [hB]at h;exact .inl h
section
variable{t:ι->Ty}
def eZ{k:Nat}{u:Ty}(hr:fn.results= #[.tmp k])(i:ι)(hO:O=O2 i)(hk:look G k=some u)(hu: ∀S v,u.p S v->(t i).p S v):
  AT ⟨P,⟨N,[]⟩,NA O1,w0,S0,none⟩ (bodyPost P fn (Vq ⟨P,⟨N,[]⟩,NA O1,w0,S0,none⟩ O1 t O2)) .ret O G:=fun _ _ S st=>
 ⟨st.facts.defers,_,sZ P fn k hr _ _,K8 st rfl i hO (hu S _ (st.facts.at_ k u hk))⟩
end
def du.join: ∀{O1 O2:List OE},du base B w S O1->du base B w S O2->(∀e∈O1,∀f∈O2,e.apart f)->du base B w S (O1++O2)
 |[],_,_,h,_=>h
 |e::O1,O2,⟨A,V,h3⟩,h,ha=>⟨A,fun f hf=>(A6.1 hf).elim (V f) (ha e (lg ..) f),du.join h3 h fun g hg f hf=>ha g (li _ hg) f hf⟩
section
variable{ty:TypeId}
def St.turn{Or O2:List OE}(st:St E (O1++Or) G a w S)(D:kx (fun k=> ∃f∈O1,f.fp k) w S w' S')(hs:lV w' S')(ho:du 0 uc w' S' O2)(hn: ∀k,(∃f∈O2,f.fp k)->(∃f∈O1,f.fp k)\/w.heap.size<=k):St E (O2++Or) G a w' S' :=by
 obtain⟨A,V,h3⟩:=p9 st.own
 have hbl:=st.base_le
 refine⟨st.ext.step D (fun b ⟨f,hf,H⟩=>(du.mem A f hf).2 b H),hs,du.join (Aj ho fun f hf k hk=>?_) (V.ext D fun f hf b H ⟨g,hg,hgb⟩=>h3 g hg f hf b hgb H) (fun e he f hf b heb hfb=>?_),st.facts.mono D.keep⟩
 ·rcases hn k ⟨f,hf,hk⟩with⟨g,hg,hgk⟩|h
  ·exact(du.mem A g hg).2 k hgk
  ·exact .inl (nA hbl h)
 ·rcases hn b ⟨e,he,heb⟩with⟨g,hg,hgb⟩|h
  ·exact h3 g hg f hf b hgb hfb
  ·have:=f.here (du.mem V f hf).1 b hfb
   omega
def uT{xs:List Operand}(O1 Or:List OE){t:ι->Ty}(hO:O=O1++Or)(hc:aj E.P f=true)(hs:eJ E.P f ts O1 t O2)(D:j3 E.N G xs ts)(hd:Nat.blt aN E.N.n=true)(k: ∀i,RG E ops af rest (O2 i++Or) ((aN,t i)::G)):
  RG E ops af (⟨some aN,.call ⟨.value (.func f),xs.toArray,ats⟩,ty,pos,after,none⟩::rest) O G:= .of rfl fun a w S st=>by
 subst hO
 have hr:(execOp a.eval ⟨some aN,.call ⟨.value (.func f),xs.toArray,ats⟩,ty,pos,after,none⟩).run E.P w= .ok (.enter f (xs.map a.eval).toArray) w:=by
  simp [execOp,resolve,Act.eval,Deferred.ofValue,invoke,jN hc]
 refine⟨fun c h=>(by cases h),?_⟩
 rw [hr]
 refine(hs w S _ st.sat (D.tys st.facts) (p9 st.own).1.weak).mono fun en w' ⟨i,v,S',he,hv,A,V,h3,h4⟩=>⟨_,he,?_⟩;exact k i _ _ S' ((st.turn A V h3 h4).put hd hv)
end

structure OI where
 h:Nat->Option Nat×Nat:=fun _=>(none,0)
 os:List (Option Nat×Nat):=[]
 fp:Nat->Prop:=uc
 v:Value:=undef
 ng:Nat->(Option Nat×Nat)×(Nat->Option Nat×Nat):=fun _=>((none,0),fun _=>(none,0))
 oss:Nat->List (Option Nat×Nat):=fun _=>[]
def oA:OI:={}
def oi(l:Option Nat)(c:Nat):OI:={h:=fun _=>(l,c)}
def EffOK(E:En)(O:List OE)(need:lY)(o:Oper)(post:OI->List OE)(t:OI->Ty):Prop:=
 ∀a w S,lV w S->du E.base E.B w S O->de E.N S a need->E.base<=w.heap.size->
  Ma E.P o a w (fun a' w' => ∃v S' x,a' =a.put o.dst v/\kx (NA O) w S w' S' /\lV w' S' /\du E.base E.B w' S' (post x)/\(t x).p S' v)
variable{post:OI->List OE}
section
variable{ty:TypeId}
def Pv{t' :TypeId}{y:Operand}{u:OI->Ty}(ti:TI E.P T sz bytes agg z)(hsz:r.sz=sz)(hz:Nat.beq z.length sz=true)(h0:Nat.blt 0 sz=true)(h128:Nat.ble bytes 2048=true)(M:E.P.underlying t=some (.slice T))(D:aL E.N G x (Z (Y l cap n)))(hy: ∀a w S,lV w S->de E.N S a G-> ∃news,Src E.P r.sz t' (a.eval y) ys.length news w/\qc r S news ys)(happ:lr xs ys=some zs)(hu: ∀l' cap' w0 S,(ku mm r T l' cap' zs).p w0 S->(u (oi l' cap')).p S (Y l' cap' zs.length))(hn:n=xs.length):
  EffOK E (ku mm r T l cap xs::O) G ⟨some aN,.call ⟨.builtin .append,#[x,y],#[t,t']⟩,ty,pos,after,g⟩ (fun i=>ku mm r T (i.h 0).1 (i.h 0).2 zs::O) u:=fun a w S hs ho hf H=>by
 subst hn
 have A:a.eval x=Y l cap xs.length:=D S a hf
 obtain⟨news,V,h3⟩:=hy a w S hs hf
 obtain⟨l',cap',w',S',hr,hext,hsat,hh,hnew⟩:=yO (ty:=ty) ti hsz hz h0 h128 M hs ho.1 H V h3 happ
 have hrun:(execOp a.eval ⟨some aN,.call ⟨.builtin .append,#[x,y],#[t,t']⟩,ty,pos,after,g⟩).run E.P w= .ok (.value (Y l' cap' zs.length)) w' :=by
  simp [execOp,resolve,invoke,builtin,A,hr]
 refine⟨fun c h=>(by cases h),?_⟩
 rw [hrun]
 refine⟨_,S',oi l' cap',rfl,hext.more fun b H=>⟨_,lg ..,H⟩,hsat,⟨hh,fun f hf b H hfb=>?_,ho.2.2.ext hext fun f hf b H hbl=>ho.2.1 f hf b hbl H⟩,hu l' cap' w' S' hh.1⟩
 rcases hnew b H with h|h
 ·exact ho.2.1 f hf b h hfb
 ·have:=f.here (du.mem ho.2.2 f hf).1 b hfb
  omega
def lE{t' :TypeId}{y:Operand}(ti:TI E.P T sz bytes agg z)(hsz:r.sz=sz)(hz:Nat.beq z.length sz=true)(h0:Nat.blt 0 sz=true)(h128:Nat.ble bytes 2048=true)(M:E.P.underlying t=some (.slice T))(ht' :t' =t)(D:aL E.N G x (tO r l cap xs))(hy:aL E.N G y (K (fJ r) ys))(happ:lr xs ys=some zs):
  EffOK E (d r T l cap xs::O) G ⟨some aN,.call ⟨.builtin .append,#[x,y],#[t,t']⟩,ty,pos,after,g⟩ (fun i=>d r T (i.h 0).1 (i.h 0).2 zs::O) (fun i=>tO r (i.h 0).1 (i.h 0).2 zs):=by
 subst ht'
 exact Pv ti hsz hz h0 h128 M (Bi D) (fun a w S hs hf=>yG M hs (hy S a hf)) happ (fun _ _ _ _ h=>⟨rfl,mq h⟩) rfl
def SS{xs:List Operand}{u:OI->Ty}(hc:aj E.P f=true)(hs:lH E.P f ts mm r T ys)(D:j3 E.N G xs ts)(hu: ∀l cap w0 S,(ku mm r T l cap ys).p w0 S->(u (oi l cap)).p S (Y l cap ys.length)):
  EffOK E O G ⟨some aN,.call ⟨.value (.func f),xs.toArray,ats⟩,ty,pos,after,g⟩ (fun i=>ku mm r T (i.h 0).1 (i.h 0).2 ys::O) u:=fun a w S hsat ho hf H=>by
 have hr:(execOp a.eval ⟨some aN,.call ⟨.value (.func f),xs.toArray,ats⟩,ty,pos,after,g⟩).run E.P w= .ok (.enter f (xs.map a.eval).toArray) w:=by
  simp [execOp,resolve,Act.eval,Deferred.ofValue,invoke,jN hc]
 refine⟨fun c h=>(by cases h),?_⟩
 rw [hr]
 exact(hs w S _ hsat (D.tys hf)).mono fun e w' ⟨l,cap,S',he,A,V,h3⟩=>⟨_,he,_,S',oi l cap,rfl,A.more fun _ H=>H.elim,V,tJ ho A h3.1 (fun b H=>(h3.2 b H).resolve_right id) H,hu l cap w' S' h3.1⟩
def du.turn{Or O2:List OE}(h:du base B w S (O1++Or))(hbl:base<=w.heap.size)(D:kx (NA O1) w S w' S')(ho:du 0 uc w' S' O2)(hn: ∀k,(∃f∈O2,f.fp k)->(∃f∈O1,f.fp k)\/w.heap.size<=k):du base B w' S' (O2++Or):=by
 obtain⟨A,V,h3⟩:=p9 h
 refine du.join (Aj ho fun f hf k hk=>?_) (V.ext D fun f hf b H ⟨g,hg,hgb⟩=>h3 g hg f hf b hgb H) (fun e he f hf b heb hfb=>?_)
 ·rcases hn k ⟨f,hf,hk⟩with⟨g,hg,hgk⟩|h
  ·exact(du.mem A g hg).2 k hgk
  ·exact .inl (nA hbl h)
 ·rcases hn b ⟨e,he,heb⟩with⟨g,hg,hgb⟩|h
  ·exact h3 g hg f hf b hgb hfb
  ·have:=f.here (du.mem V f hf).1 b hfb
   omega
def kb{xs:List Operand}(O1 Or:List OE){t:OI->Ty}{O2:OI->List OE}(hO:O=O1++Or)(hc:aj E.P f=true)(hs:eJ E.P f ts O1 t O2)(D:j3 E.N G xs ts)(hpost: ∀i,O2 i++Or=post i):
  EffOK E O G ⟨some aN,.call ⟨.value (.func f),xs.toArray,ats⟩,ty,pos,after,g⟩ post t:=fun a w S hsat ho hf H=>by
 subst hO
 obtain rfl:(fun i=>O2 i++Or)=post:=funext hpost
 have hr:(execOp a.eval ⟨some aN,.call ⟨.value (.func f),xs.toArray,ats⟩,ty,pos,after,g⟩).run E.P w= .ok (.enter f (xs.map a.eval).toArray) w:=by
  simp [execOp,resolve,Act.eval,Deferred.ofValue,invoke,jN hc]
 refine⟨fun c h=>(by cases h),?_⟩
 rw [hr]
 exact(hs w S _ hsat (D.tys hf) (p9 ho).1.weak).mono fun en w' ⟨i,v,S',he,hv,A,V,h3,h4⟩=>⟨_,he,v,S',i,rfl,A.more fun b ⟨f,hf,H⟩=>⟨f,F4 _ hf,H⟩,V,du.turn ho H A h3 h4,hv⟩
def pd{op:Op}{t:OI->Ty}(h:EffOK E O G ⟨some aN,op,ty,pos,after,none⟩ post t)(hd:Nat.blt aN E.N.n=true)(k: ∀x:OI,RG E ops af rest (post x) ((aN,t x)::G)):RG E ops af (⟨some aN,op,ty,pos,after,none⟩::rest) O G:= .of rfl fun a w S st=>
 oK (fun a' w' ⟨v,S',x,ha,D,hs,ho,hv⟩=>by
  subst ha
  exact k x _ _ S' ⟨st.ext.step D fun b ⟨f,hf,H⟩=>(du.mem st.own f hf).2 b H,hs,ho,(st.facts.mono D.keep).put hd hv⟩) (h a w S st.sat st.own st.facts st.base_le)
end

def upd(σ:Nat->OI)(k:Nat)(x:OI):Nat->OI:=fun j=>bif Nat.beq j k then x else σ j
def J7(σ:Nat->OI){k j:Nat}(x:OI)(h:j≠k):upd σ k x j=σ j:=by
 have:Nat.beq j k=false:=by
  cases H:Nat.beq j k with
  |false=>rfl
  |true=>exact absurd (pF H) h
 simp [upd,this]
structure NE where
 slot:Nat
 ty:(Nat->OI)->Ty
 src:Option Nat
def acj(G:lY)(ts:List (OI->Ty))(n:NE):Prop:=
 match n.src with
 |some j=> ∀σ,(ts[j]?).map (fun f=>f (σ j))=some (n.ty σ)
 |none=> ∀σ,look G n.slot=some (n.ty σ)
def Rv(G:lY)(ts:List (OI->Ty)):List NE->Prop
 |[]=>True
 |n::l=>acj G ts n/\Rv G ts l
def Rv.mem{ts:List (OI->Ty)}: ∀{l:List NE},Rv G ts l-> ∀n∈l,acj G ts n
 |_::_,⟨h,_⟩,_,.head _=>h
 |_::_,⟨_,h⟩,_,.tail _ hm=>Rv.mem h _ hm
def jD(E:En)(ops:Array Oper)(O:List OE)(need:lY)(o:Oper)(post:OI->List OE)(t:OI->Ty):Prop:=
 ∀a w S,lV w S->du E.base E.B w S O->de E.N S a need->E.base<=w.heap.size->
  if Region.wanted o (yielded ops a.tmps)then Ma E.P o a w (fun a' w' => ∃v S' x,a' =a.put o.dst v/\kx (NA O) w S w' S' /\lV w' S' /\du E.base E.B w' S' (post x)/\(t x).p S' v)
  else∃x,du E.base E.B w S (post x)/\(t x).p S undef
def bL{need:lY}{t:OI->Ty}(hg:o.guard=none)(h:EffOK E O need o post t):jD E ops O need o post t:=fun a w S hs ho hf H=>by
 have:Region.wanted o (yielded ops a.tmps)=true:=by unfold Region.wanted;rw [hg]
 rw [this,bv rfl]
 exact h a w S hs ho hf H
def ij(es:List Bool)(i:Nat):Nat:=(es.take i).countP (· ==true)
def PE(L:List Oper)(es:List Bool):Bool:=(List.range es.length).all fun i=>(List.range i).all fun j=> !((es[i]?).getD false&&(es[j]?).getD false)||nN L L.length i j
structure DJE(E:En)(G:lY)(l:List Oper)(ts:List (OI->Ty))(Om:Nat->(Nat->OI)->List OE)(es:List Bool)(done:Array Bool)(a:Act)(w:World)(S:SH)(σ:Nat->OI)(c:Nat):Prop where
 ext:kx E.B E.w0 E.S0 w S
 sat:lV w S
 own:du E.base E.B w S (Om c σ)
 size:a.tmps.size=E.N.n
 defers:a.defers=E.N.ds
 dsz:done.size=l.length
 down: ∀j o,l[j]? =some o->done.getD j false=true-> ∀e∈o.after,Region.binds .any e=true->done.getD e.on false=true
 old: ∀k t,look G k=some t->(∀j o,l[j]? =some o->done.getD j false=true->o.dst≠some k)->t.p S (a.tmps.getD k undef)
 new: ∀j o aN f,l[j]? =some o->done.getD j false=true->o.dst=some aN->ts[j]? =some f->(f (σ j)).p S (a.tmps.getD aN undef)
 chain: ∀k,es[k]? =some true->(done.getD k false=true↔ij es k<c)
variable{es:List Bool}
def H7: ∀{i j:Nat},i<j->es[i]? =some true->ij es i<ij es j:=by
 induction es with
 |nil=>intro i j _ h;simp at h
 |cons e es ih=>
  intro i j hij h
  cases j with
  |zero=>omega
  |succ j=>
   cases i with
   |zero=>simp at h;subst h;simp [ij]
   |succ i=>
    have:=ih (i:=i) (j:=j) (by omega) (by simpa using h)
    cases e<;>simp [ij]at this ⊢ <;>omega
def xy: ∀{c k:Nat},c<ij es k-> ∃i,i<k/\es[i]? =some true/\ij es i=c:=by
 induction es with
 |nil=>intro c k h;simp [ij]at h
 |cons e es ih=>
  intro c k h
  cases k with
  |zero=>simp [ij]at h
  |succ k=>
   cases e with
   |false=>
    obtain⟨i,A,V,h3⟩:=ih (c:=c) (k:=k) (by simpa [ij] using h)
    exact⟨i+1,by omega,by simpa using V,by simpa [ij] using h3⟩
   |true=>
    cases c with
    |zero=>exact⟨0,by omega,rfl,by simp [ij]⟩
    |succ c=>
     obtain⟨i,A,V,h3⟩:=ih (c:=c) (k:=k) (by simp [ij]at h ⊢;omega)
     exact⟨i+1,by omega,by simpa using V,by simp [ij]at h3 ⊢;omega⟩
section
variable{ts:List (OI->Ty)}{Om:Nat->(Nat->OI)->List OE}
end

section
variable{ty:TypeId}
end

def Jd{α:Type}{r:Rp α}{x:α}{z:List Value}(D: ∀S,r.rc S z x)(S:SH): ∀n:Nat,qc r S (List.replicate n z).flatten (List.replicate n x)
 |0=>rfl
 |n+1=>⟨z,_,by rw [List.replicate_succ,List.flatten_cons],D S,Jd D S n⟩
def G2(z:List Value):(List.range z.length).map (fun i=>z[i%z.length]?.getD default)=z:=by
 apply Ga
 intro k
 rcases lZ k z.length with h|h
 ·rw [Dz,List.getElem?_range h]
  simp [Nat.mod_eq_of_lt h,h]
 ·rw [Ip (by simpa using h),Ip h]
def DE(z:List Value)(n:Nat):(Builtin.zeroCells z.toArray n).toList=(List.replicate n z).flatten:=by
 unfold Builtin.zeroCells
 simp
 induction n with
 |zero=>simp
 |succ n ih=>
  rw [List.replicate_succ,List.flatten_cons,<-ih,EG,Nat.add_comm,List.range_add,EO,G2,List.map_map]
  congr 1
  apply Lq
  intro i _
  simp
section
variable{ty:TypeId}
def flat_len(h:z.length=sz)(n:Nat):(List.replicate n z).flatten.length=n*sz:=by
 simp [h]
def Tf{x:α}{y:Operand}(ti:TI E.P T sz bytes agg z)(hsz:r.sz=sz)(hz:Nat.beq z.length sz=true)(M:E.P.underlying t=some (.slice T))(D: ∀S,r.rc S z x)(hone:z.all (·.oneCell')=true)(hs:dH xs lo (xs.length:Int)=some ys)(hy:aL E.N G y (Z (nS sz l cap lo.toNat ys.length)))(hzs:xs.take lo.toNat++List.replicate ys.length x=zs)(k:RG E ops af rest (dv r T l cap zs::O) G):
  RG E ops af (⟨none,.call ⟨.builtin .clear,#[y],#[t]⟩,ty,pos,after,none⟩::rest) (dv r T l cap xs::O) G:= .of rfl fun a w S st=>by
 subst hsz
 subst hzs
 obtain⟨i,zv,hi,A,V,h3,h4⟩:=ti.get
 have hyv:a.eval y=nS r.sz l cap lo.toNat ys.length:=hy S a st.facts
 have hz2:z.length=r.sz:=pF hz
 obtain⟨lo',m,rfl,hm,h5,h6,rfl⟩:=gT hs
 have hm' :m=xs.length:=by omega
 subst hm'
 rw [AA]at hyv k
 rw [wy]at hyv k
 by_cases hnil:xs.drop lo' =[]
 ·have hlo:xs.length<=lo' :=Gc.1 hnil
  rw [hnil]at hyv k
  have e1:xs.take lo' ++List.replicate ([]:List α).length x=xs:=by simp [oB hlo]
  rw [e1]at k
  have hrun:(execOp a.eval ⟨none,.call ⟨.builtin .clear,#[y],#[t]⟩,ty,pos,after,none⟩).run E.P w= .ok (.value (.tuple #[])) w:=by
   cases l<;>simp [execOp,resolve,invoke,builtin,Builtin.clear_,jx M,hyv,nS]
  refine⟨fun c h=>(by cases h),?_⟩
  rw [hrun]
  exact k _ _ S st
 ·obtain⟨⟨cells,hraw,hrc,hno⟩,hbase⟩:=st.own.1
  have hlt:lo' <xs.length:=by
   rcases lZ lo' xs.length with h|h
   ·exact h
   ·exact absurd (Qb h) hnil
  cases l with
  |none=>have:=hraw.1;omega
  |some b=>
   obtain⟨cur,g1,g2,g3,g4,g5⟩:=hraw
   have hno' :S b=none:=hno b rfl
   have hne: ¬(cap=lo'):=by omega
   have hld:(xs.drop lo').length=xs.length-lo' :=by simp
   have hfl:=flat_len hz2 (xs.length-lo')
   have hones: ∀u∈(List.replicate (xs.length-lo') z).flatten,u.oneCell' =true:=by
    intro u hu
    obtain⟨q,hq,hu⟩:=List.mem_flatten.1 hu
    rw [(List.mem_replicate.1 hq).2]at hu
    exact mZ.1 hone u hu
   have hmul:xs.length*r.sz<=cur.size:=by rw [g4];exact ya _ g2
   have hfit:lo' *r.sz+(xs.length-lo')*r.sz=xs.length*r.sz:=by rw [<-xX];congr 1;omega
   have hst:=run_storeCells_at E.P b (lo' *r.sz) T (List.replicate (xs.length-lo') z).flatten 0 cur w g1 (by omega) hones
   simp only [F6]at hst
   have hrun:(execOp a.eval ⟨none,.call ⟨.builtin .clear,#[y],#[t]⟩,ty,pos,after,none⟩).run E.P w= .ok (.value (.tuple #[])) (w.setRow b (cur.toList.take (lo' *r.sz)++(List.replicate (xs.length-lo') z).flatten++cur.toList.drop (lo' *r.sz+(List.replicate (xs.length-lo') z).flatten.length)).toArray):=by
    have e1: ∃q,xs.length-lo' =q+1:=⟨xs.length-lo' -1,by omega⟩
    obtain⟨q,hq⟩:=e1
    have e2:a.eval y= .slice (some ⟨b,lo' *r.sz,none⟩) (q+1) (cap-lo'):=by rw [hyv,hld,hq];simp [nS,hne]
    rw [hq]at hst ⊢
    simp [execOp,resolve,invoke,builtin,Builtin.clear_,jx M,e2,zeroValue,typeInfo,hi,h3,h4,DE,hst]
   refine⟨fun c h=>(by cases h),?_⟩
   rw [hrun]
   have hset:=setRow_heap w b cur (cur.toList.take (lo' *r.sz)++(List.replicate (xs.length-lo') z).flatten++cur.toList.drop (lo' *r.sz+(List.replicate (xs.length-lo') z).flatten.length)).toArray T _ g1
   have hl2:(xs.take lo' ++List.replicate (xs.drop lo').length x).length=xs.length:=by simp;omega
   have hsp:qc r S (cells.take (lo' *r.sz)) (xs.take lo'):=by
    have e:xs=xs.take lo' ++xs.drop lo' :=(ra _ _).symm
    rw [e]at hrc
    have:=(pZ hrc).1
    rwa [show(xs.take lo').length=lo' from by simp;omega]at this
   have hcl:((cur.toList.take (lo' *r.sz)++(List.replicate (xs.length-lo') z).flatten++cur.toList.drop (lo' *r.sz+(List.replicate (xs.length-lo') z).flatten.length)).toArray).toList.take ((xs.take lo' ++List.replicate (xs.drop lo').length x).length*r.sz)=cells.take (lo' *r.sz)++(List.replicate (xs.length-lo') z).flatten:=by
    rw [hl2,<-g5,B0,A7 (ya _ (by omega))]
    have hlen1:(cur.toList.take (lo' *r.sz)++(List.replicate (xs.length-lo') z).flatten).length=xs.length*r.sz:=by
     rw [gA,hfl,ym,Fo,A7 (by omega)];exact hfit
    rw [<-hlen1,List.take_left]
   obtain⟨q1,q2,q3⟩:=ll (O:=O) st.sat (dv r T (some b) cap xs) (dv r T (some b) cap (xs.take lo' ++List.replicate (xs.drop lo').length x)) st.own (fun k=>⟨fun h=>(nR h).symm,fun h=>by rw [h];rfl⟩) (fun k=>⟨fun h=>(nR h).symm,fun h=>by rw [h];rfl⟩)
    (w' :=w.setRow b (cur.toList.take (lo' *r.sz)++(List.replicate (xs.length-lo') z).flatten++cur.toList.drop (lo' *r.sz+(List.replicate (xs.length-lo') z).flatten.length)).toArray) ⟨rfl,rfl,rfl,by simp [World.setRow],gu _⟩ (fun k hk=>setRow_other w b k _ hk)
    ⟨cells.take (lo' *r.sz)++(List.replicate (xs.length-lo') z).flatten,⟨_,hset,by rw [hl2];exact g2,g3,by simp only [EQ,gA,ym,Fn,Fo];omega,hcl⟩,by rw [hld];exact uE hsp (Jd D S _),fun k hk=>by rw [<-nR hk];exact hno'⟩ hno'
   ·exact k _ _ S ⟨st.ext.step q1 (fun c hc=>hbase c (by rw [hc];rfl)),q2,q3,st.facts⟩
end

def n7{α:Type}(r:Rp α)(n:Nat):Rp (List α) where
 sz:=n*r.sz
 agg:=true
 rc:=fun S cs xs=>xs.length=n/\qc r S cs xs
 mono:=fun h ⟨A,V⟩=>⟨A,sB h V⟩
 len:=fun⟨A,V⟩=>by rw [lx V,A]
 one:=fun⟨_,V⟩=>CH V
 sc:=fun h=>by cases h
section
section
variable{ty:TypeId}
def AS{i:Int}(M:E.P.underlying t=some (.array n e))(ti:TI E.P e sz bytes agg z)(hsz:r.sz=sz)(D:aL E.N G x (bt (n7 r n) xs))(hi:aL E.N G ix (K (rI k) i))(hy:ep xs i=some y):
  ce E O G ⟨dst,.indexAddr t x ix,ty,pos,after,g⟩ (bt r y):=
 .of_pure fun a w S _ _ hf=>by
  subst hsz
  obtain⟨b,off,c,T,fr,A,V,h3,h4⟩:=D S a hf
  have h5:a.eval ix= .int k i:=f8.1 (hi S a hf)
  obtain⟨h0,hy'⟩:=eM hy
  have hlt:i.toNat<xs.length:=(o5.1 hy').1
  have hc:0<=i/\i<(n:Int):=⟨h0,by omega⟩
  refine⟨.pointer (some ⟨b,off+i.toNat*r.sz,none⟩),?_,b,_,c,T,fr,rfl,V,?_⟩
  ·simp [execOp,A,h5,Instr.indexAt,asIntOf,jx M,Instr.sureAddr,hc,ti.sizeOf,iU]
  ·have h6:=wQ h4 hy'
   rw [yq,B0,uk]at h6
   have hmul:i.toNat*r.sz+r.sz<=n*r.sz:=by rw [<-EG];exact ya _ (by omega)
   have hmin:min r.sz ((n7 r n).sz-i.toNat*r.sz)=r.sz:=by
    show min r.sz (n*r.sz-i.toNat*r.sz)=r.sz
    omega
   rwa [hmin]at h6
def pr{i:Int}(M:E.P.underlying t=some (.array n e))(ti:TI E.P e sz bytes agg z)(hm:bx (n7 r n) T b xs∈O)(D:aL E.N G x (Z (al b 0)))(hi:aL E.N G ix (K (rI k) i))(hy:ep xs i=some y):
  ce E O G ⟨dst,.indexAddr t x ix,ty,pos,after,g⟩ (Z (al b (i.toNat*sz))):=
 .of_pure fun a w S _ ho hf=>by
  have A:a.eval x=al b 0:=D S a hf
  have h5:a.eval ix= .int k i:=f8.1 (hi S a hf)
  obtain⟨⟨_,c,_,h4,_⟩,_⟩:=ho.mem _ hm
  obtain⟨h0,hy'⟩:=eM hy
  have hlt:i.toNat<xs.length:=(o5.1 hy').1
  have hc:0<=i/\i<(n:Int):=⟨h0,by omega⟩
  refine⟨_,?_,rfl⟩
  simp [execOp,A,h5,al,Instr.indexAt,asIntOf,jx M,Instr.sureAddr,hc,ti.sizeOf,iU]
end
def WN{i:Int}(hy:ep xs i=some y){cs:List Value}(h:(n7 r n).rc S cs xs):r.rc S ((cs.drop (i.toNat*r.sz)).take r.sz) y:=wQ h.2 (eM hy).2
def G6{i:Int}{p:Operand}{ty:TypeId}(ti:TI E.P U sz bytes agg z)(hsz:r.sz=sz)(hag:r.agg=agg)(hm:bx (n7 r n) T b xs∈O)(hy:ep xs i=some y)(hp:aL E.N G p (Z (al b (i.toNat*r.sz)))):ce E O G ⟨dst,.load U p,ty,pos,after,g⟩ (K r y):=
 .of_pure fun a w S _ ho hf=>by
  have A:a.eval p=al b (i.toNat*r.sz):=hp S a hf
  obtain⟨⟨_,cur,h5,h6⟩,_⟩:=ho.mem _ hm
  have h7:=WN hy h6
  refine⟨_,?_,_,rfl,h7⟩
  simp [execOp,A,al,Instr.loadAt,Instr.sureAddr,iu ti h5 hsz hag h7]
def Tc{v:α}{i:Int}{p:Operand}{ty:TypeId}(ti:TI E.P U sz bytes agg z)(hsz:r.sz=sz)(hy:ep xs i=some y)(hz:xs.set i.toNat v=zs)(hp:aL E.N G p (Z (al b (i.toNat*r.sz))))(hv:aL E.N G x (K r v))(k:RG E ops af rest (bx (n7 r n) T b zs::O) G):RG E ops af (⟨none,.store U p x,ty,pos,after,none⟩::rest) (bx (n7 r n) T b xs::O) G:= .of rfl fun a w S st=>by
 subst hz
 have A:a.eval p=al b (i.toNat*r.sz):=hp S a st.facts
 obtain⟨ds,V,h3⟩:=hv S a st.facts
 obtain⟨⟨hno,cur,h5,h6⟩,_⟩:=st.own.1
 obtain⟨h0,hy'⟩:=eM hy
 have hlt:i.toNat<xs.length:=(o5.1 hy').1
 have hl:=lx h6.2
 simp only [Fo]at hl
 have hmul:i.toNat*r.sz+r.sz<=xs.length*r.sz:=by rw [<-EG];exact ya _ hlt
 obtain⟨w',hr,e1,e2,e3,e4,e5,e6⟩:=iD ti hsz h3 h5 (off:=i.toNat*r.sz) (by omega)
 have hrun:(execOp a.eval ⟨none,.store U p x,ty,pos,after,none⟩).run E.P w= .ok .skip w' :=by
  simp [execOp,A,V,Instr.storeAt,al,Instr.sureAddr,hr]
 refine⟨fun c h=>(by cases h),?_⟩
 rw [hrun]
 obtain⟨g1,g2,g3⟩:=ll (O:=O) st.sat (bx (n7 r n) T b xs) (bx (n7 r n) T b (xs.set i.toNat v)) st.own (fun _=>ul) (fun _=>ul) ⟨e1,e2,e3,e4.1,e4.2⟩ e6 ⟨hno,_,e5,by rw [vW];exact h6.1,wP h3 h6.2 hlt⟩ hno
 exact k _ _ S ⟨st.ext.step g1 (fun c hc=>st.own.1.2 c hc),g2,g3,st.facts⟩
end
def AQ{α:Type}{r:Rp α}{c:Value}{x:α}(h: ∀S,r.rc S [c] x)(S:SH): ∀n,qc r S (List.replicate n c) (List.replicate n x)
 |0=>rfl
 |n+1=>⟨[c],_,rfl,h S,AQ h S n⟩
def Na{c:Value}{x:α}(n:Nat)(h: ∀S,r.rc S [c] x): ∀S,(n7 r n).rc S (List.replicate n c) (List.replicate n x):=fun S=>⟨List.length_replicate,AQ h S n⟩
def Y5(n:Nat):Option Unit:=if n<=68719476736 then some ()else none
def JM{x:α}(h:dH xs lo (xs.length:Int)=some ys)(hz:xs.take lo.toNat++List.replicate ys.length x=zs):zs.length=xs.length:=by
 obtain⟨l,m,rfl,hm,A,V,rfl⟩:=gT h
 have hm' :m=xs.length:=by omega
 subst hm'
 rw [<-hz]
 simp
 omega

def tC(n:FuncId)(cts:List Ty):Ty where
 p:=fun S v=> ∃cap:List Value,v= .func (.func n) #[] cap.toArray/\Ay S cts cap
 mono:=fun h ⟨cap,e,k⟩=>⟨cap,e,Ay.mono h k⟩
section
section
variable{ty:TypeId}
def Uv{fid:FuncId}{caps:List Operand}{cts:List Ty}(hcap:j3 E.N G caps cts):ce E O G ⟨dst,.makeFunc (.func fid) #[] caps.toArray,ty,pos,after,g⟩ (tC fid cts):=
 .of_pure fun a w S _ _ hf=>⟨.func (.func fid) #[] (caps.map a.eval).toArray,by simp [execOp,Instr.makeFunc],_,rfl,hcap.tys hf⟩
end
def ST{n:FuncId}{cts:List Ty}{ty:TypeId}{fo:Operand}{xs:List Operand}(O1 Or:List OE){t:OI->Ty}{O2:OI->List OE}(hO:O=O1++Or)(hc:aj E.P n=true)(hs:eJ E.P n (ts++cts) O1 t O2)(hf:aL E.N G fo (tC n cts))(D:j3 E.N G xs ts)(hpost: ∀i,O2 i++Or=post i):
  EffOK E O G ⟨some aN,.call ⟨.value fo,xs.toArray,ats⟩,ty,pos,after,g⟩ post t:=fun a w S hsat ho hF H=>by
 subst hO
 obtain rfl:(fun i=>O2 i++Or)=post:=funext hpost
 obtain⟨cap,e,hcap⟩:=hf S a hF
 have hr:(execOp a.eval ⟨some aN,.call ⟨.value fo,xs.toArray,ats⟩,ty,pos,after,g⟩).run E.P w= .ok (.enter n ((xs.map a.eval).toArray++cap.toArray)) w:=by
  simp [execOp,resolve,e,Deferred.ofValue,invoke,jN hc]
 refine⟨fun c h=>(by cases h),?_⟩
 rw [hr]
 have e2:(xs.map a.eval).toArray++cap.toArray=((xs.map a.eval)++cap).toArray:=by simp
 rw [e2]
 exact(hs w S _ hsat ((D.tys hF).append hcap) (p9 ho).1.weak).mono fun en w' ⟨i,v,S',he,hv,A,V,h3,h4⟩=>⟨_,he,v,S',i,rfl,A.more fun b ⟨f,hf,H⟩=>⟨f,F4 _ hf,H⟩,V,du.turn ho H A h3 h4,hv⟩
end

def IF{α:Type}(xs:List α)(lo:Int)(n:Nat)(i:Int):Option α:=if 0<=i/\i<(n:Int)then ep xs (lo+i)else none
def z2{i:Int}(h:IF xs lo n i=some y):0<=i/\i<(n:Int)/\ep xs (lo+i)=some y:=by
 unfold IF at h
 split at h
 ·rename_i hc;exact⟨hc.1,hc.2,h⟩
 ·cases h
def DI(h:dH xs lo hi=some ys):0<=lo:=by
 obtain⟨l,m,rfl,_,_,_,_⟩:=gT h
 omega
section
def qU(hm:ku mm r T l cap xs∈O)(hs:dH xs lo hi=some ys)(h:(l=none->ys.length=0)/\ys.length<=maxLen->RG E ops af rest O G):RG E ops af rest O G:=fun a w S st=>by
 refine h ?_ a w S st
 obtain⟨cells,A,_⟩:=(st.own.mem _ hm).1
 obtain⟨l',m,_,_,_,h8,rfl⟩:=gT hs
 have hlen:((xs.take m).drop l').length<=xs.length:=by simp;omega
 cases l with
 |none=>have:=A.1;exact⟨fun _=>by omega,by omega⟩
 |some b=>obtain⟨cur,_,g2,g3,_⟩:=A;exact⟨fun h=>(by cases h),by omega⟩
section
variable{ty:TypeId}
def QE{lo:Nat}(M:E.P.underlying t=some (.slice e))(hv:l=none->n=0)(D:aL E.N G x (Z (nS sz l cap lo n))):
  ce E O G ⟨dst,.call ⟨.builtin .len,#[x],#[t]⟩,ty,pos,after,g⟩ (K (rI .i64) (n:Int)):=
 .of_pure fun a w S _ ho hf=>by
  have A:a.eval x=nS sz l cap lo n:=D S a hf
  obtain⟨ad,c,h3⟩: ∃ad c,nS sz l cap lo n= .slice ad n c:=by
   cases l with
   |none=>rw [hv rfl];exact⟨none,0,rfl⟩
   |some b=>exact⟨_,_,rfl⟩
  refine⟨.int .i64 n,?_,f8.2 rfl⟩
  simp [execOp,resolve,invoke,builtin,Builtin.len_,jx M,A,h3,goInt]
def vL{i:Int}(M:E.P.underlying t=some (.slice e))(ti:TI E.P e sz bytes agg z)(hsz:r.sz=sz)(hm:ku mm r U l cap xs∈O)(hl0:0<=lo)(D:aL E.N G x (Z (nS sz l cap lo.toNat n)))(hi' :aL E.N G ix (K (rI k) i))(hy:IF xs lo n i=some y):
  ce E O G ⟨dst,.indexAddr t x ix,ty,pos,after,g⟩ (Z (bh l ((lo+i).toNat*sz+0))):=
 .of_pure fun a w S _ ho hf=>by
  subst hsz
  have A:a.eval x=nS r.sz l cap lo.toNat n:=D S a hf
  have h3:a.eval ix= .int k i:=f8.1 (hi' S a hf)
  obtain⟨hi0,hin,hxi⟩:=z2 hy
  obtain⟨_,hx'⟩:=eM hxi
  obtain⟨b,cur,rfl,_,hle,_⟩:=nE (ho.mem _ hm).1 hx'
  have hlt2:(lo+i).toNat<xs.length:=(o5.1 hx').1
  have hne: ¬(cap=lo.toNat):=by omega
  refine⟨_,?_,rfl⟩
  have hc:0<=i/\i<(n:Int):=⟨hi0,hin⟩
  have e1:(lo+i).toNat=lo.toNat+i.toNat:=by omega
  simp [execOp,A,h3,nS,hne,Instr.indexAt,asIntOf,jx M,hc,ti.sizeOf,iU,bh,al,e1,xX]
end
end

section
variable{ty:TypeId}{l:List Oper}
end

def og3 [Inhabited α]{c b:Bool}{x:Option α}{k:α->Option β}{aN:Option β}{r:β}(h:c=true->(if b=true then x.bind k else aN)=some r): ∃y,((c&&b)=true->x=some y/\k y=some r)/\(c=true->b=false->aN=some r):=by
 cases c with
 |false=>exact⟨default,fun e=>(by cases e),fun e=>(by cases e)⟩
 |true=>
  obtain⟨y,A,V⟩:=og (h rfl)
  exact⟨y,fun e=>A e,fun _ e=>V e⟩
def fj{κ β:Type} [DecidableEq κ]:List (κ×β)->κ->Option β
 |[],_=>none
 |p::m,k=>if p.1=k then some p.2 else fj m k
def ga{κ β:Type} [DecidableEq κ]:List (κ×β)->κ->β->List (κ×β)
 |[],k,v=>[(k,v)]
 |p::m,k,v=>if p.1=k then(k,v)::m else p::ga m k v
def A4{κ:Type}(P:Program)(kt:TypeId)(kv:κ->Value):Prop:= ∃aN,P.underlying kt=some aN/\(∀a,MapKept.IsKey aN (kv a))/\ ∀a b,kv a=kv b->a=b
def kvI(k:IntKind)(n:Int):Value:= .int k n
def ez(s:cj):Value:= .string ⟨s.toArray⟩
variable{kt:TypeId}
def wV(h:P.underlying kt=some (.int k)):A4 P kt (kvI k):=⟨_,h,fun _=>rfl,fun a b e=>by injection e⟩
def CT(h:P.underlying kt=some .string):A4 P kt ez:=⟨_,h,fun _=>trivial,fun a b e=>by
 injection e with e
 injection e with e
 simpa using congrArg Array.toList e⟩
structure MV(β:Type) where
 p:World->SH->β->Option Nat×Nat->Value->Prop
 here: ∀{w S y o v},p w S y o v-> ∀j,o.1=some j->j<w.heap.size
 kept: ∀{C w w' S S' y o v},p w S y o v->kx C w S w' S' ->(∀j,o.1=some j-> ¬C j)->p w' S' y o v
def KB{β:Type}(ty:β->Ty):MV β where
 p:=fun _ S y o v=>o.1=none/\(ty y).p S v
 here:=fun h j hj=>by rw [h.1]at hj;cases hj
 kept:=fun h k _=>⟨h.1,(ty _).mono k.keep h.2⟩
def X2{α:Type}(r:Rp α)(T:TypeId):MV (List α) where
 p:=fun w S xs o v=>v=Y o.1 o.2 xs.length/\Ax true r T o.1 o.2 xs w S
 here:=fun{w S y o v} h j hj=>(ku true r T o.1 o.2 y).here h.2 j hj
 kept:=fun{C w w' S S' y o v} h k hC=>⟨h.1,(ku true r T o.1 o.2 y).kept h.2 k hC⟩
section
variable{κ:Type} [DecidableEq κ]{h2:MV β}{kv:κ->Value}{aN:TypeDesc}{k:κ}
def yg(h2:MV β)(kv:κ->Value)(w:World)(S:SH)(h:Option κ):List MapEntry->List (Option Nat×Nat)->List (κ×β)->Prop
 |[],[],[]=>True
 |e::es,o::os,q::m=>e.key=kv q.1/\(if h=some q.1 then o.1=none else h2.p w S q.2 o e.val)/\(∀o' ∈os,∀j,o.1=some j->o'.1≠some j)/\(∀p∈m,p.1≠q.1)/\yg h2 kv w S h es os m
 |_,_,_=>False
def JH{h:Option κ}: ∀{es:List MapEntry} {os:List (Option Nat×Nat)} {m:List (κ×β)},yg h2 kv w S h es os m-> ∀o∈os,∀j,o.1=some j->j<w.heap.size
 |[],[],[],_,o,ho,_,_=>by cases ho
 |e::es,o::os,q::m,⟨_,V,_,_,h5⟩,o',ho,j,hj=>by
  rcases f7.1 ho with rfl|ho
  ·split at V
   ·rw [V]at hj;cases hj
   ·exact h2.here V j hj
  ·exact JH h5 o' ho j hj
def C8{C:Nat->Prop}(k:kx C w S w' S'){h:Option κ}: ∀{es:List MapEntry} {os:List (Option Nat×Nat)} {m:List (κ×β)},yg h2 kv w S h es os m->(∀o∈os,∀j,o.1=some j-> ¬C j)->yg h2 kv w' S' h es os m
 |[],[],[],_,_=>trivial
 |e::es,o::os,q::m,⟨A,V,h3,h4,h5⟩,hC=>⟨A,by
  split
  ·rename_i hh;rw [bv hh]at V;exact V
  ·rename_i hh;rw [bm hh]at V;exact h2.kept V k (hC o (lg ..)),h3,h4,C8 k h5 fun o' ho=>hC o' (li _ ho)⟩
def Fh{h:Option κ}: ∀{es:List MapEntry} {os:List (Option Nat×Nat)} {m:List (κ×β)},yg h2 kv w S h es os m->(∀p∈m,h≠some p.1)->yg h2 kv w S none es os m
 |[],[],[],_,_=>trivial
 |e::es,o::os,q::m,⟨A,V,h3,h4,h5⟩,hk=>⟨A,by
  rw [bm (hk q (lg ..))]at V
  rw [bm (by simp)];exact V,h3,h4,Fh h5 fun p hp=>hk p (li _ hp)⟩
def tA(hd: ∀a,MapKept.IsKey aN (kv a))(hi: ∀a b,kv a=kv b->a=b)(a b:κ):Instr.sameNow aN (kv a) (kv b)=some (decide (a=b)):=by
 obtain⟨r,A,V⟩:=MapKept.sameNow_of_keys (hd a) (hd b)
 rw [A]
 by_cases h:a=b
 ·subst h;rw [V.2 rfl];simp
 ·rw [sO h]
  cases r with
  |false=>rfl
  |true=>exact absurd (hi _ _ (V.1 rfl)) h
def pT(hd: ∀a,MapKept.IsKey aN (kv a))(hi: ∀a b,kv a=kv b->a=b): ∀{es:List MapEntry} {os:List (Option Nat×Nat)} {m:List (κ×β)} (i:Nat),yg h2 kv w S none es os m->
  ∃os',(∀x∈os',x∈os\/x.1=none)/\yg h2 kv w S (some k) es os' m/\
   ((fj m k=none/\Instr.findNow aN (kv k) es i=some none)\/ ∃(y:β) (o:Option Nat×Nat) (e:MapEntry) (j:Nat),fj m k=some y/\o∈os/\h2.p w S y o e.val/\Instr.findNow aN (kv k) es i=some (some (j,e.val))/\ ∀x∈os',∀q,o.1=some q->x.1≠some q)
 |[],[],[],i,_=>⟨[],fun x D=>(by cases D),trivial,.inl ⟨rfl,rfl⟩⟩
 |e::es,o::os,q::m,i,⟨A,V,h3,h4,h5⟩=>by
  rw [bm (by simp)]at V
  by_cases hk:q.1=k
  ·refine⟨(none,0)::os,fun x D=>?_,⟨A,by rw [bv (by rw [hk])],fun _ _ _ hj=>(by cases hj),h4,?_⟩,.inr ⟨q.2,o,e,i,by unfold fj;rw [bv hk],lg ..,V,?_,fun x D j hj=>?_⟩⟩
   ·rcases f7.1 D with rfl|D
    ·exact .inr rfl
    ·exact .inl (li _ D)
   ·have: ∀{es:List MapEntry} {os:List (Option Nat×Nat)} {m:List (κ×β)},yg h2 kv w S none es os m->(∀p∈m,p.1≠k)->yg h2 kv w S (some k) es os m:=by
     intro es
     induction es with
     |nil=>intro os m h _;cases os<;>cases m<;>first|trivial|exact h.elim
     |cons e es ih=>
      intro os m h hm
      cases os with
      |nil=>cases m<;>exact h.elim
      |cons o os=>
       cases m with
       |nil=>exact h.elim
       |cons q m=>
        obtain⟨g1,g2,g3,g4,g5⟩:=h
        rw [bm (by simp)]at g2
        exact⟨g1,by rw [bm (fun e=>hm q (lg ..) (nR e).symm)];exact g2,g3,g4,ih g5 fun p hp=>hm p (li _ hp)⟩
    exact this h5 (fun p hp=>by rw [<-hk];exact h4 p hp)
   ·unfold Instr.findNow
    rw [A,tA hd hi,hk,qi rfl]
   ·rcases f7.1 D with rfl|D
    ·exact fun e=>by cases e
    ·exact h3 x D j hj
  ·obtain⟨os',g1,g2,g3⟩:=pT hd hi (i+1) h5
   refine⟨o::os',fun x D=>?_,⟨A,by rw [bm (fun e=>hk (nR e).symm)];exact V,fun o' ho' j hj=>?_,h4,g2⟩,?_⟩
   ·rcases f7.1 D with rfl|D
    ·exact .inl (lg ..)
    ·exact(g1 x D).imp (li _) id
   ·rcases g1 o' ho' with h|h
    ·exact h3 o' h j hj
    ·rw [h];exact fun e=>by cases e
   ·have hf:Instr.findNow aN (kv k) (e::es) i=Instr.findNow aN (kv k) es (i+1):=by
     conv=>lhs;unfold Instr.findNow
     rw [A,tA hd hi,sO (fun e=>hk e.symm)]
    have hm:fj (q::m) k=fj m k:=by conv=>lhs;unfold fj;rw [bm hk]
    rw [hf,hm]
    refine g3.imp id fun⟨y,o1,e1,j,f1,f2,f3,f4,f5⟩=>⟨y,o1,e1,j,f1,li _ f2,f3,f4,fun x D q hq=>?_⟩
    rcases f7.1 D with rfl|D
    ·exact fun e=>h3 o1 f2 q e hq
    ·exact f5 x D q hq
def E9(x:α)(xs:List α)(j:Nat)(f:α->α):(x::xs).modify (j+1) f=x::xs.modify j f:=by simp [List.modify_succ_cons]
def JI(hd: ∀a,MapKept.IsKey aN (kv a))(hi: ∀a b,kv a=kv b->a=b){y:β}{o:Option Nat×Nat}{v:Value}{born:Nat}(hv:h2.p w S y o v): ∀{es:List MapEntry} {os:List (Option Nat×Nat)} {m:List (κ×β)} (i:Nat),yg h2 kv w S (some k) es os m->(∀o' ∈os,∀j,o.1=some j->o'.1≠some j)->
    ∃os',(∀x∈os',x∈os\/x=o)/\
      ((∃(j:Nat) (e:MapEntry),Instr.findNow aN (kv k) es i=some (some (i+j,e.val))/\es[j]? =some e/\e.key=kv k/\yg h2 kv w S none (es.modify j fun e=>{e with key:=kv k,val:=v}) os' (ga m k y))\/
        (Instr.findNow aN (kv k) es i=some none/\yg h2 kv w S none (es++[⟨kv k,v,born⟩]) os' (ga m k y)))
  |[],[],[],i,_,_=>⟨[o],fun x D=> .inr (A9.1 D),.inr ⟨rfl,⟨rfl,by rw [bm (by simp)];exact hv,fun _ h=>(by cases h),fun _ h=>(by cases h),trivial⟩⟩⟩
  |e::es,o1::os,q::m,i,⟨A,V,h3,h4,h5⟩,ha=>by
    by_cases hk:q.1=k
    · refine⟨o::os,fun x D=>?_,.inl ⟨0,e,?_,rfl,by rw [A,hk],?_⟩⟩
      · rcases f7.1 D with rfl|D
        · exact .inr rfl
        · exact .inl (li _ D)
      · unfold Instr.findNow
        rw [A,tA hd hi,hk,qi rfl]
        rfl
      · unfold ga
        rw [bv hk,List.modify_zero_cons]
        exact⟨rfl,by rw [bm (by simp)];exact hv,fun o' ho' =>ha o' (li _ ho'),fun p hp=>by rw [<-hk];exact h4 p hp,
          Fh h5 fun p hp e=>h4 p hp (by rw [hk];exact(nR e).symm)⟩
    · obtain⟨os',g1,g2⟩:=JI hd hi (born:=born) hv (i+1) h5 fun o' ho' =>ha o' (li _ ho')
      rw [bm (fun e=>hk (nR e).symm)]at V
      have hf:Instr.findNow aN (kv k) (e::es) i=Instr.findNow aN (kv k) es (i+1):=by
        conv=>lhs;unfold Instr.findNow
        rw [A,tA hd hi,sO (fun e=>hk e.symm)]
      have hm:ga (q::m) k y=q::ga m k y:=by conv=>lhs;unfold ga;rw [bm hk]
      have hap: ∀o' ∈os',∀j,o1.1=some j->o'.1≠some j:=fun o' ho' j hj=>by
        rcases g1 o' ho' with h|rfl
        · exact h3 o' h j hj
        · exact fun e=>ha o1 (lg ..) j e hj
      have hne: ∀p∈ga m k y,p.1≠q.1:=by
        have: ∀m:List (κ×β),(∀p∈m,p.1≠q.1)-> ∀p∈ga m k y,p.1≠q.1:=by
          intro m
          induction m with
          |nil=>intro _ p hp;rw [A9.1 hp];exact fun e=>hk e.symm
          |cons p0 m ih=>
            intro hm p hp
            unfold ga at hp
            split at hp
            · rcases f7.1 hp with rfl|hp
              · exact fun e=>hk e.symm
              · exact hm p (li _ hp)
            · rcases f7.1 hp with rfl|hp
              · exact hm _ (lg ..)
              · exact ih (fun p hp=>hm p (li _ hp)) p hp
        exact this m h4
      rw [hf,hm]
      refine⟨o1::os',fun x D=>?_,g2.imp (fun⟨j,e',f1,f2,f3,f4⟩=>⟨j+1,e',by rw [f1];congr 3;omega,by simpa using f2,f3,?_⟩) fun⟨f1,f2⟩=>⟨f1,?_⟩⟩
      · rcases f7.1 D with rfl|D
        · exact .inl (lg ..)
        · exact(g1 x D).imp (li _) id
      · rw [E9]
        exact⟨A,by rw [bm (by simp)];exact V,hap,hne,f4⟩
      · exact⟨A,by rw [bm (by simp)];exact V,hap,hne,f2⟩
def JG{h:Option κ}: ∀{es:List MapEntry} {os:List (Option Nat×Nat)} {m:List (κ×β)},yg h2 kv w S h es os m-> ∀x∈es,∃q∈m,x.key=kv q.1
 |[],[],[],_,x,D=>by cases D
 |e::es,o::os,q::m,⟨A,_,_,_,h5⟩,x,D=>by
  rcases f7.1 D with rfl|D
  ·exact⟨q,lg ..,A⟩
  ·obtain⟨q',g1,g2⟩:=JG h5 x D
   exact⟨q',li _ g1,g2⟩
def SJ(hd: ∀a,MapKept.IsKey aN (kv a)){h:Option κ}{es:List MapEntry}{os:List (Option Nat×Nat)}{m:List (κ×β)}(h4:yg h2 kv w S h es os m)(g1:Instr.findNow aN (kv k) es i=some none){x:MapEntry}(D:x∈es):x.key≠kv k:=by
 rcases MapKept.findNow_spec (hd k) es i (fun y hy=>by obtain⟨q,_,e⟩:=JG h4 y hy;rw [e];exact hd _)with⟨_,V⟩|⟨j,e,V,_⟩
 ·exact V x D
 ·rw [g1]at V;cases V
def bQ(h2:MV β)(kv:κ->Value)(b:Nat)(h:Option κ)(os:List (Option Nat×Nat))(m:List (κ×β)):OE where
 fp:=fun j=>j=b\/ ∃o∈os,o.1=some j
 p:=fun w S=>S b=none/\(∀o∈os,o.1≠some b)/\ ∃es clock,w.heap[b]? =some (.map es clock)/\yg h2 kv w S h es.toList os m/\MapKept.Stamped es clock
 here:=by
  intro w S ⟨_,_,es,clock,h3,h4,_⟩ j hj
  rcases hj with rfl|⟨o,ho,hj⟩
  ·exact(Bb.1 h3).1
  ·exact JH h4 o ho j hj
 kept:=by
  intro C w w' S S' ⟨A,V,es,clock,h3,h4,hst⟩ k hC
  have hlt:=(Bb.1 h3).1
  exact⟨by rw [k.old b hlt (hC b (.inl rfl))];exact A,V,es,clock,by rw [k.heap b hlt (hC b (.inl rfl))];exact h3,C8 k h4 (fun o ho j hj=>hC j (.inr ⟨o,ho,hj⟩)),hst⟩
def au(b:Nat):Value:= .map (some b)
end
variable{r' :Rp γ}
section
variable{κ:Type} [DecidableEq κ]{h2:MV β}{kv:κ->Value}{os:List (Option Nat×Nat)}{m:List (κ×β)}{k:κ}{et:TypeId}{i v:Operand}{dst:Option Nat}{ty:TypeId}
def xW(N:Fr)(G:lY)(x:Operand)(u:Value):Prop:= ∀S a,de N S a G->a.eval x=u
def OQ{N:Fr}{q:IntKind}{n:Int}(h:aL N G x (K (rI q) n)):xW N G x (kvI q n):=fun S a hf=>f8.1 (h S a hf)
def UL{N:Fr}{n:cj}(h:aL N G x (K rS n)):xW N G x (ez n):=fun S a hf=>uv.1 (h S a hf)
def ZV(P:Program)(T:TypeId)(z:Value):Prop:=(P.info? T).bind (·.zero)=some z
def ZV.run{z:Value}(h:ZV P T z)(w:World):(zeroValue T).run P w= .ok z w:=by
 unfold ZV at h
 cases hi:P.info? T with
 |none=>rw [hi]at h;cases h
 |some i=>
  rw [hi]at h
  have h' :i.zero=some z:=h
  simp [zeroValue,typeInfo,hi,h']
def BR(h2:MV β)(kv:κ->Value)(hd:Nat.blt aN E.N.n=true)(k: ∀b,RG E ops af rest (bQ h2 kv b none [] []::O) ((aN,Z (au b))::G)):
  RG E ops af (⟨some aN,.makeMap t none,ty,pos,after,none⟩::rest) O G:= .of rfl fun a w S st=>by
 obtain⟨he,hs',hno⟩:=kL (w:=w) (.map #[] 0) st.sat
 have hrun:(execOp a.eval ⟨some aN,.makeMap t none,ty,pos,after,none⟩).run E.P w= .ok (.value (au w.heap.size)) (w.alloc (.map #[] 0)):=by
  simp [execOp,Instr.makeMap,au]
 refine⟨fun c h=>(by cases h),?_⟩
 rw [hrun]
 exact k w.heap.size _ _ S ⟨st.ext.step0 he,hs',tJ st.own he ⟨hno,fun _ h=>(by cases h),#[],0,Az w _,trivial,MapKept.stamped_empty 0⟩ (fun b H=>by
  rcases H with rfl|⟨_,h,_⟩
  ·exact gu _
  ·cases h) st.base_le,st.facts.put hd rfl⟩
def kF{kk:Value}{es:Array MapEntry}{clock:Nat}{q:TypeDesc}{z:Value}{u:Option (Nat×Value)}(hm:P.underlying t=some (.map kt et))(hq:P.underlying kt=some q)(hk:MapKept.IsKey q kk)(H:w.heap[b]? =some (.map es clock))(hz:ZV P et z)(hf:Instr.findNow q kk es.toList 0=some u)(c:Bool):(Instr.lookup t (au b) kk c).run P w= .ok (if c then .tuple #[(u.map (·.2)).getD z,.bool u.isSome]else(u.map (·.2)).getD z) w:=by
 cases u with
 |none=>simp [Instr.lookup,au,jx hm,ET H,PX hq hk,MapKept.run_findKey hq hf,hz.run,Result.andThen]
 |some r=>simp [Instr.lookup,au,jx hm,ET H,PX hq hk,MapKept.run_findKey hq hf,Result.andThen]
def OC{γ:β->Ty}{z:β}{zv:Value}(hm:E.P.underlying t=some (.map kt et))(hk:A4 E.P kt kv)(hz:ZV E.P et zv)(hzt: ∀S,(γ z).p S zv)(hmem:bQ (KB γ) kv b none os m∈O)(D:aL E.N G x (Z (au b)))(hi:xW E.N G i (kv k)):
  ce E O G ⟨dst,.lookup t x i false,ty,pos,after,g⟩ (γ ((fj m k).getD z)):= .of_pure fun a w S hs ho hf=>by
 obtain⟨⟨_,_,es,clock,h3,h4,_⟩,_⟩:=du.mem ho _ hmem
 obtain⟨q,hq,hd,hinj⟩:=hk
 have A:a.eval x=au b:=D S a hf
 have V:a.eval i=kv k:=hi S a hf
 obtain⟨_,_,_,h5⟩:=pT hd hinj (k:=k) 0 h4
 rcases h5 with⟨g1,g2⟩|⟨y,o,e,j,g1,g2,g3,g4,g5⟩
 ·refine⟨zv,by simp [execOp,A,V,kF hm hq (hd k) h3 hz g2],by rw [g1];exact hzt S⟩
 ·refine⟨e.val,by simp [execOp,A,V,kF hm hq (hd k) h3 hz g4],by rw [g1];exact g3.2⟩
def OD{m:List (κ×List α)}(hm:E.P.underlying t=some (.map kt et))(hk:A4 E.P kt kv)(hz:ZV E.P et (.slice none 0 0))(hmem:bQ (X2 r T) kv b none os m∈O)(D:aL E.N G x (Z (au b)))(hi:xW E.N G i (kv k)):
  ce E O G ⟨dst,.lookup t x i false,ty,pos,after,g⟩ (K (fJ r) ((fj m k).getD [])):= .of_pure fun a w S hs ho hf=>by
 obtain⟨⟨_,_,es,clock,h3,h4,_⟩,_⟩:=du.mem ho _ hmem
 obtain⟨q,hq,hd,hinj⟩:=hk
 have A:a.eval x=au b:=D S a hf
 have V:a.eval i=kv k:=hi S a hf
 obtain⟨_,_,_,h5⟩:=pT hd hinj (k:=k) 0 h4
 rcases h5 with⟨g1,g2⟩|⟨y,o,e,j,g1,g2,g3,g4,g5⟩
 ·refine⟨.slice none 0 0,by simp [execOp,A,V,kF hm hq (hd k) h3 hz g2],by rw [g1];exact Cr⟩
 ·refine⟨e.val,by simp [execOp,A,V,kF hm hq (hd k) h3 hz g4],by rw [g1,g3.1];exact mq g3.2⟩
def DY{kk:Value}{es:Array MapEntry}{clock:Nat}{q:TypeDesc}{val:Value}(hm:P.underlying t=some (.map kt et))(hq:P.underlying kt=some q)(hk:MapKept.IsKey q kk)(H:w.heap[b]? =some (.map es clock)):
  (Instr.findNow q kk es.toList 0=some none->(Instr.mapUpdate t (au b) kk val).run P w= .ok () {w with heap:=w.heap.setIfInBounds b (.map (es.push ⟨kk,val,clock⟩) (clock+1))})/\
  (∀j e,Instr.findNow q kk es.toList 0=some (some (j,e))->(∀e',es.toList[j]? =some e' ->e'.key=kk)->(∃e',es.toList[j]? =some e')->(Instr.mapUpdate t (au b) kk val).run P w= .ok () {w with heap:=w.heap.setIfInBounds b (.map (es.modify j fun e=>{e with key:=kk,val:=val}) clock)}):=by
 refine⟨fun hf=>?_,fun j e hf hj he=>?_⟩
 ·simp [Instr.mapUpdate,au,jx hm,ET H,PX hq hk,MapKept.run_findKey hq hf,Qd _ H,Result.andThen]
 ·obtain⟨e',he'⟩:=he
  have A:=hj e' he'
  have V:es[j]? =some e' :=by simpa using he'
  simp [Instr.mapUpdate,au,jx hm,ET H,PX hq hk,MapKept.run_findKey hq hf,Qd _ H,Result.andThen,V,A,MapKept.run_keyThatStays hk]
def Eb{y:β}{o:Option Nat×Nat}{val:Value}(hs:lV w S)(hm:E.P.underlying t=some (.map kt et))(hk:A4 E.P kt kv)(hp:(bQ h2 kv b (some k) os m).p w S)(hv:h2.p w S y o val)(hob:o.1≠some b)(hap: ∀o' ∈os,∀j,o.1=some j->o'.1≠some j):
  ∃w' os',(Instr.mapUpdate t (au b) (kv k) val).run E.P w= .ok () w' /\kx (fun j=>j=b) w S w' S/\lV w' S/\(bQ h2 kv b none os' (ga m k y)).p w' S/\(∀j,(bQ h2 kv b none os' (ga m k y)).fp j->(bQ h2 kv b (some k) os m).fp j\/o.1=some j):=by
 obtain⟨hno,hnb,es,clock,h3,h4,hst⟩:=hp
 obtain⟨q,hq,hdk,hinj⟩:=hk
 obtain⟨os',p1,p2⟩:=JI hdk hinj (born:=clock) hv 0 h4 hap
 have hnb' : ∀o' ∈os',o'.1≠some b:=fun o' ho' =>by
  rcases p1 o' ho' with h|rfl
  ·exact hnb o' h
  ·exact hob
 have hfp: ∀j,(j=b\/ ∃o∈os',o.1=some j)->(j=b\/ ∃o∈os,o.1=some j)\/o.1=some j:=fun j hj=>by
  rcases hj with h|⟨o',ho',e⟩
  ·exact .inl (.inl h)
  ·rcases p1 o' ho' with h|rfl
   ·exact .inl (.inr ⟨o',h,e⟩)
   ·exact .inr e
 have hw: ∀X:Obj,kx (fun j=>j=b) w S {w with heap:=w.heap.setIfInBounds b X} S/\lV {w with heap:=w.heap.setIfInBounds b X} S/\({w with heap:=w.heap.setIfInBounds b X}:World).heap[b]? =some X:=fun X=>
  ⟨⟨rfl,rfl,rfl,gu _,by simp,fun j _ hj=>(MapKept.heap_set (o' :=X) h3).2 j hj,SH.le_refl _,fun _ _ _=>rfl⟩,hs.same fun j o hj=>(MapKept.heap_set (o' :=X) h3).2 j (fun e=>by subst e;rw [hno]at hj;cases hj),(MapKept.heap_set h3).1⟩
 obtain⟨r1,r2⟩:=DY (val:=val) hm hq (hdk k) h3
 rcases p2 with⟨j,e,g1,g2,g3,g4⟩|⟨g1,g2⟩
 ·rw [rj]at g1
  obtain⟨x1,x2,x3⟩:=hw (.map (es.modify j fun e=>{e with key:=kv k,val:=val}) clock)
  refine⟨_,os',r2 j _ g1 (fun e' he' =>by rw [g2]at he';cases he';exact g3) ⟨_,g2⟩,x1,x2,⟨hno,hnb',_,_,x3,?_,MapKept.stamped_modify hst j _ (fun _ _=>rfl) (fun e' _ he' =>by rw [<-Qa,g2]at he';cases he';exact g3.symm)⟩,hfp⟩;refine C8 x1 (by rw [Array.toList_modify];exact g4) fun o' ho' j hj e=>?_
  subst e
  exact hnb' o' ho' hj
 ·obtain⟨x1,x2,x3⟩:=hw (.map (es.push ⟨kv k,val,clock⟩) (clock+1))
  refine⟨_,os',r1 g1,x1,x2,⟨hno,hnb',_,_,x3,?_,MapKept.stamped_push hst (fun x D e=>?_)⟩,hfp⟩
  rotate_left
  ·exact SJ hdk h4 g1 D e
  refine C8 x1 (by rw [Array.toList_push];exact g2) fun o' ho' j hj e=>?_
  subst e
  exact hnb' o' ho' hj
def XK{γ:β->Ty}{y:β}(hm:E.P.underlying t=some (.map kt et))(hk:A4 E.P kt kv)(D:aL E.N G x (Z (au b)))(hi:xW E.N G i (kv k))(hv:aL E.N G v (γ y))
  (h: ∀os',RG E ops af rest (bQ (KB γ) kv b none os' (ga m k y)::O) G):
  RG E ops af (⟨none,.mapUpdate t x i v,ty,pos,after,none⟩::rest) (bQ (KB γ) kv b none os m::O) G:= .of rfl fun a w S st=>by
 have A:a.eval x=au b:=D S a st.facts
 have V:a.eval i=kv k:=hi S a st.facts
 have h3:(γ y).p S (a.eval v):=hv S a st.facts
 obtain⟨⟨hp,hfp⟩,hap,hO⟩:=st.own
 obtain⟨hno,hnb,es,clock,e3,e4,hst⟩:=hp
 obtain⟨q,hq,hdk,hinj⟩:=hk
 obtain⟨os1,p1,p2,_⟩:=pT hdk hinj (k:=k) 0 e4
 have hnb1: ∀o∈os1,o.1≠some b:=fun o ho=>by
  rcases p1 o ho with h|h
  ·exact hnb o h
  ·rw [h];exact fun e=>by cases e
 obtain⟨w',os',r,x1,x2,x3,x4⟩:=Eb (h2:=KB γ) (E:=E) (y:=y) (o:=(none,0)) (val:=a.eval v) st.sat hm ⟨q,hq,hdk,hinj⟩ ⟨hno,hnb1,es,clock,e3,p2,hst⟩ ⟨rfl,h3⟩ (fun e=>by cases e) (fun _ _ _ e=>by cases e)
 have hrun:(execOp a.eval ⟨none,.mapUpdate t x i v,ty,pos,after,none⟩).run E.P w= .ok .skip w' :=by simp [execOp,A,V,r]
 refine⟨fun c h=>(by cases h),?_⟩
 rw [hrun]
 have hfp' : ∀j,(bQ (KB γ) kv b none os' (ga m k y)).fp j->(bQ (KB γ) kv b none os m).fp j:=fun j hj=>by
  rcases x4 j hj with(h|⟨o,ho,e⟩)|e
  ·exact .inl h
  ·rcases p1 o ho with h|h
   ·exact .inr ⟨o,h,e⟩
   ·rw [h]at e;cases e
  ·cases e
 exact h os' _ _ S ⟨st.ext.step x1 (fun c hc=>hfp c (.inl hc)),x2,⟨⟨x3,fun j hj=>hfp j (hfp' j hj)⟩,fun f hf j hj=>hap f hf j (hfp' j hj),hO.ext x1 fun f hf j hj hjb=>hap f hf j (.inl hjb) hj⟩,st.facts⟩
def XL{c:Nat}{m:List (κ×List α)}(hm:E.P.underlying t=some (.map kt et))(hk:A4 E.P kt kv)(D:aL E.N G x (Z (au b)))(hi:xW E.N G i (kv k))(hv:aL E.N G v (tO r l c xs))(h: ∀os',RG E ops af rest (bQ (X2 r T) kv b none os' (ga m k xs)::O) G):
  RG E ops af (⟨none,.mapUpdate t x i v,ty,pos,after,none⟩::rest) (d r T l c xs::bQ (X2 r T) kv b (some k) os m::O) G:= .of rfl fun a w S st=>by
 have A:a.eval x=au b:=D S a st.facts
 have V:a.eval i=kv k:=hi S a st.facts
 have h3:a.eval v=Y l c xs.length:=Bi hv S a st.facts
 obtain⟨⟨M,htf⟩,hta,⟨hp,hfp⟩,hap,hO⟩:=st.own
 have hmm:=hta _ (lg ..)
 obtain⟨w',os',r',x1,x2,x3,x4⟩:=Eb (h2:=X2 r T) (E:=E) (y:=xs) (o:=(l,c)) (val:=a.eval v) st.sat hm hk hp ⟨h3,M⟩ (fun e=>hmm b e (.inl rfl)) (fun o' ho' j hj e=>hmm j hj (.inr ⟨o',ho',e⟩))
 have hrun:(execOp a.eval ⟨none,.mapUpdate t x i v,ty,pos,after,none⟩).run E.P w= .ok .skip w' :=by simp [execOp,A,V,r']
 refine⟨fun c h=>(by cases h),?_⟩
 rw [hrun]
 exact h os' _ _ S ⟨st.ext.step x1 (fun c hc=>hfp c (.inl hc)),x2,⟨⟨x3,fun j hj=>(x4 j hj).elim (hfp j) (htf j)⟩,fun f hf j hj=>(x4 j hj).elim (hap f hf j) (fun e=>hta f (li _ hf) j e),hO.ext x1 fun f hf j hj hjb=>hap f hf j (.inl hjb) hj⟩,st.facts⟩
end

def Br(tmps:Array Value):ResultVar->Sem Value
 | .tmp t=>pure (tmps.getD t undef)
 | .cell a t=>do loadVar t (<-asAddr (tmps.getD a undef))
def VM(P:Program)(N:Fr)(G:lY)(rv:ResultVar)(t:Ty):Prop:= ∀a w S,lV w S->de N S a G-> ∃v,(Br a.tmps rv).run P w= .ok v w/\t.p S v
def dq{N:Fr}{k:Nat}{t:Ty}(hk:look G k=some t):VM P N G (.tmp k) t:=fun a w S _ hf=>⟨_,rfl,hf.at_ k t hk⟩
def gC{N:Fr}{k:Nat}{x:α}(ti:TI P T sz bytes agg z)(hsz:r.sz=sz)(hag:r.agg=agg)(hk:look G k=some (bt r x)):VM P N G (.cell k T) (K r x):=fun a w S hs hf=>by
 obtain⟨b,off,c,U,fr,A,V,h3⟩:=hf.at_ k _ hk
 obtain⟨c',h4,h5⟩:=hs.part V (r.len h3)
 rw [<-h5]at h3
 have hl:=iu ti h4 hsz hag h3
 have h1' :a.tmps[k]?.getD undef=Value.pointer (some ⟨b,off,none⟩):=by simpa [JZ] using A
 exact⟨_,by simp [Br,h1',asAddr,hl],_,rfl,h3⟩
def Ta(P:Program)(N:Fr)(G:lY):List ResultVar->List Ty->Prop
 |[],[]=>True
 |rv::rvs,t::ts=>VM P N G rv t/\Ta P N G rvs ts
 |_,_=>False
def Ta.run{N:Fr}(hs:lV w S)(hf:de N S a G): ∀{rvs:List ResultVar} {ts:List Ty},Ta P N G rvs ts-> ∃vs,(rvs.mapM (Br a.tmps)).run P w= .ok vs w/\Ay S ts vs/\vs.length=rvs.length
 |[],[],_=>⟨[],rfl,trivial,rfl⟩
 |rv::rvs,t::ts,⟨A,V⟩=>by
  obtain⟨v,g1,g2⟩:=A a w S hs hf
  obtain⟨vs,k1,k2,k3⟩:=Ta.run hs hf V
  exact⟨v::vs,by simp [List.mapM_cons,g1,k1,Result.andThen],⟨g2,k2⟩,by simp [k3]⟩
def o0{rvs:List ResultVar}(hr:fn.results=rvs.toArray)(A:Nat.beq rvs.length 1=false)(h:Ta P ⟨N,[]⟩ G rvs ts):
  AT ⟨P,⟨N,[]⟩,B,w0,S0,none⟩ (bodyPost P fn (Pr ⟨P,⟨N,[]⟩,B,w0,S0,none⟩ (tT ts))) .ret O G:=fun a w S st=>by
 obtain⟨vs,k1,k2,k3⟩:=h.run st.sat st.facts
 have hne: ¬vs.length=1:=by rw [k3];intro e;rw [e]at A;cases A
 refine⟨st.facts.defers,.tuple vs.toArray,?_,_,S,rfl,st.ext,st.sat,vs,rfl,k2⟩
 have e1:(fn.results.mapM (Br a.tmps)).run P w= .ok vs.toArray w:=by
  rw [hr,List.mapM_toArray,Sem.run_map,k1]
  rfl
 have e3:results fn a.tmps=((fn.results.mapM (Br a.tmps))>>=fun vs=>pure (if h:vs.size=1 then vs[0]else .tuple vs)):=rfl
 rw [e3,qZ,e1]
 simp [Result.andThen,hne]

def TY{v:Value}(h:(K (fJ r) xs).p S v):(fJ r).rc S [v] xs:=by
 obtain⟨cs,e,V⟩:=h
 obtain⟨a,cap,e2,h3⟩:=V
 subst e2
 rw [e]
 exact⟨a,cap,rfl,h3⟩
section
variable{ty:TypeId}
def fg{r:Rp β}{get:β->Value}{x:β}{p:Operand}(ti:TI E.P U 1 bytes false z)(hget:ju r off rV get)(hm:bx r T b x∈O)(hv:get x=Y l cap n)(hp:aL E.N G p (Z (al b off))):
  ce E O G ⟨dst,.load U p,ty,pos,after,g⟩ (Z (Y l cap n)):=(bn (q:=rV) ti rfl rfl hget hm hp).imp fun _ _ h=>by rw [<-hv];exact(zK.1 h).1
def Ji{q:Rp α}{r:Rp β}{get:β->Value}{x:β}{h2:TypeId}{p:Operand}(ti:TI E.P U 1 bytes false z)(hget:ju r off rV get)(hm:bx r T b x∈O)(hm2:d q h2 l cap xs∈O)(hv:get x=Y l cap xs.length)(hp:aL E.N G p (Z (al b off))):
  ce E O G ⟨dst,.load U p,ty,pos,after,g⟩ (tO q l cap xs):=fun a w S hs ho hf=>
 oK (fun _ _ ⟨v,S',A,V,h3,h4⟩=>⟨v,S',A,V,h3,h4,by
  have h5:v=Y l cap xs.length:=h4
  rw [h5]
  exact mq (((ho.ext0 V).mem _ hm2).1)⟩) (fg (g:=g) (ty:=ty) (pos:=pos) (after:=after) (dst:=dst) ti hget hm hv hp a w S hs ho hf)
def dc{o:Nat}{p:Operand}(hf:bp E.P T i=some (off,sz))(h0:Nat.beq sz 0=false)(hp:aL E.N G p (Z (al b o)))(he:o+off=n):ce E O G ⟨dst,.fieldAddr T p i,ty,pos,after,g⟩ (Z (al b n)):=by
 subst he
 exact ID hf h0 hp
def oa{q:Rp α}{r:Rp β}{x:β}{p:Operand}(ti:TI E.P U sz bytes agg z)(hsz:q.sz=sz)(hag:q.agg=agg)(hag2:r.agg=agg)(hsz2:r.sz=sz)(hm:bx r T b x∈O)(hc: ∀w S cs,du E.base E.B w S O->r.rc S cs x->q.rc S cs y)(hp:aL E.N G p (Z (al b 0))):
  ce E O G ⟨dst,.load U p,ty,pos,after,g⟩ (K q y):= .of_pure fun a w S _ ho hf=>by
 have A:a.eval p=al b 0:=hp S a hf
 obtain⟨⟨_,cur,h5,h6⟩,_⟩:=ho.mem _ hm
 have h7:=hc w S _ ho h6
 have hl:=q.len h7
 have h8:q.rc S ((cur.toList.drop 0).take q.sz) y:=by rw [qh,oB (by omega)];exact h7
 exact⟨_,by simp [execOp,A,al,Instr.loadAt,Instr.sureAddr,iu ti h5 hsz hag h8],_,rfl,h8⟩
def ly{q:Rp α}{h2:TypeId}(ho:du base B w S O)(hm:d q h2 l cap xs∈O):(fJ q).rc S [Y l cap xs.length] xs:=TY (mq (ho.mem _ hm).1)
end
def pw{α β γ:Type}(r:Rp α)(r' :Rp γ)(off:Nat)(q:Rp β)(x:α)(y:β)(x' :γ):Prop:= ∀S cs ds,r.rc S cs x->q.rc S ds y->r'.rc S (cs.take off++ds++cs.drop (off+q.sz)) x'
def yK{x:α}{y:β}(h:fm r off q set):pw r r off q x y (set x y):=fun S cs ds A V=>h S cs x ds y A V
def fB{x:α}{y:γ}(hs:r.sz=r'.sz):pw r r' 0 r' x y y:=fun S cs ds A V=>by
 have hl:=r.len A
 rw [List.take_zero,pe,o6 (by omega),Ca]
 exact V
def zL{α' :Type}{p:Rp α}{p' :Rp α'}{x:α×β}{y:γ}{x1:α'}(h:pw p p' 0 u x.1 y x1)(hu:Nat.ble u.sz p.sz=true):pw (bS p q) (bS p' q) 0 u x y (x1,x.2):=fun S cs ds ⟨a,b,e,A,V⟩ hd=>by
 have hl:=p.len A
 have hu' :=rm hu
 have h3:=h S a ds A hd
 subst e
 rw [List.take_zero,pe,rj,ND (by omega),<-gI]
 rw [List.take_zero,pe,rj]at h3
 exact⟨_,_,rfl,h3,V⟩
def lc{β' :Type}{p:Rp α}{q' :Rp β'}{x:α×β}{y:γ}{off' :Nat}{x2:β'}(h:pw q q' off u x.2 y x2)(ho:off' =p.sz+off):pw (bS p q) (bS p q') off' u x y (x.1,x2):=fun S cs ds ⟨a,b,e,A,V⟩ hd=>by
 have hl:=p.len A
 have h3:=h S b ds V hd
 subst e ho
 refine⟨a,_,?_,A,h3⟩
 have e1:p.sz+off-a.length=off:=by omega
 have e2:p.sz+off+u.sz-a.length=off+u.sz:=by omega
 rw [List.take_append,List.drop_append,oB (by omega),o6 (by omega),e1,e2]
 simp
variable{x' :γ}
def wF{α' β' :Type}{p:Rp α}{p' :Rp α'}{f:β->α}{f' :β' ->α'}{x:β}{x' :β'}{y:γ}{z:α'}(h:pw p p' off u (f x) y z)(e:f' x' =z):pw (j4 p f) (j4 p' f') off u x y x' :=fun S cs ds A V=>by
 show p'.rc S _ (f' x')
 rw [e]
 exact h S cs ds A V
section
variable{e:Exit}{ty:TypeId}
def fv{x:α}{y:β}{p v:Operand}(ti:TI E.P U sz bytes agg z)(hsz:q.sz=sz)(hset:pw r r' off q x y x')(hoff:Nat.ble (off+q.sz) r.sz=true)(hp:aL E.N G p (Z (al b off)))(hv:aL E.N G v (K q y))(k:RG E ops af rest (bx r' T b x' ::O) G):RG E ops af (⟨none,.store U p v,ty,pos,after,none⟩::rest) (bx r T b x::O) G:= .of rfl fun a w S st=>by
 have A:a.eval p=al b off:=hp S a st.facts
 obtain⟨ds,V,h3⟩:=hv S a st.facts
 obtain⟨⟨hno,cur,h5,h6⟩,_⟩:=st.own.1
 have hl:=r.len h6
 have hoff' :=rm hoff
 obtain⟨w',hr,e1,e2,e3,e4,e5,e6⟩:=iD ti hsz h3 h5 (off:=off) (by simp at hl;omega)
 have hrun:(execOp a.eval ⟨none,.store U p v,ty,pos,after,none⟩).run E.P w= .ok .skip w' :=by
  simp [execOp,A,V,Instr.storeAt,al,Instr.sureAddr,hr]
 refine⟨fun c h=>(by cases h),?_⟩
 rw [hrun]
 obtain⟨g1,g2,g3⟩:=ll (O:=O) st.sat (bx r T b x) (bx r' T b x') st.own (fun _=>ul) (fun _=>ul) ⟨e1,e2,e3,e4.1,e4.2⟩ e6 ⟨hno,_,e5,by simpa using hset S _ _ h6 h3⟩ hno
 exact k _ _ S ⟨st.ext.step g1 (fun c hc=>st.own.1.2 c hc),g2,g3,st.facts⟩
def St.cvB{x:α}(h: ∀w S cs,du E.base E.B w S O->r.rc S cs x->r'.rc S cs x')(st:St E (bx r T b x::O) G a w S):St E (bx r' T b x' ::O) G a w S:=
 st.own_map fun⟨⟨⟨A,c,V,h3⟩,h4⟩,h5,h6⟩=>⟨⟨⟨A,c,V,h _ _ _ h6 h3⟩,h4⟩,h5,h6⟩
def PM{x:α}(h: ∀w S cs,du E.base E.B w S O->r.rc S cs x->r'.rc S cs x')(k:RG E ops af rest (bx r' T b x' ::O) G):RG E ops af rest (bx r T b x::O) G:=fun a w S st=>k a w S (st.cvB h)
end

section
variable{b:Frame}{k:List Item}{cs:List Frame}{F:Fence}
def pX:step P (lone (b.atR a (.code (.scope c)::k)) cs w)= .next (lone (b.atR a (.code c:: .inScope c::k)) cs w):=
 step_lone_go (by simp [stepG,stepG.exec,Frame.atR])
def Iw:step P (lone (b.atR a (.inScope c::k)) cs w)= .next (lone (b.atR a k) cs w):=
 step_lone_go (by simp [stepG,stepG.exec,Frame.atR])
def NN(h:c.wpIn F n P (Exit.noGoto af) a w):(Code.scope c).wpIn F n P af a w:=by
 intro b k cs hro H hr
 have h0:(lone (b.atR a (.code (.scope c)::k)) cs w).fenced P F:=fenced_calm H hr rfl
 obtain⟨e,a₁,w₁,hq,harr⟩:=h b (.inScope c::k) cs hro H hr
 cases e with
 |normal=>exact⟨.normal,a₁,w₁,hq,.head h0 pX (StepsIn.trans harr (.one (fenced_calm H hr rfl) Iw))⟩
 |exit id=>
  have D:exitTo id (.inScope c::k)=exitTo id k:=by simp [exitTo]
  exact⟨.exit id,a₁,w₁,hq,fun k' hk=> .head h0 pX (harr.1 k' (by rw [D];exact hk)),
   fun hr' hk=>let⟨k₁,A,V⟩:=harr.2 hr' (by rw [D];exact hk);⟨k₁,A,.head h0 pX V⟩⟩
 |goto l=>exact hq.elim
 |ret=>exact⟨_,a₁,w₁,hq,.of_steps (.one h0 pX) harr⟩
 |panic ch=>exact⟨_,a₁,w₁,hq,.of_steps (.one h0 pX) harr⟩
 |outgrown=>exact⟨_,a₁,w₁,hq,.of_steps (.one h0 pX) harr⟩
end
section
def Nt(h:CG E (Exit.noGoto af) c O G):CG E af (.scope c) O G:=fun a w S st=>NN (h a w S st)
def Nu{l:Nat}(h:AT E af .normal O G):CG E af (.label l) O G:=fun a w S st=>wpIn_label (h a w S st)
def EE(h:AT E af .ret O G):AT E (Exit.noGoto af) .ret O G:=h
end

def KM [Inhabited α](h:i<m):ju (n7 r m) (i*r.sz) r (fun x=>(x[i]?).getD default):=fun S cs x ⟨A,V⟩=>by
 have hi:x[i]? =some ((x[i]?).getD default):=by rw [qf (by omega)];rfl
 exact wQ V hi
def Xt [DecidableEq α] [Inhabited α]{t e:Nat}(M:P.underlying t=some (.array m e))(ti:TI P e sz bytes agg z)(hsz:r.sz=sz)(hag:r.agg=agg)(he:kw P e r n):kw P t (n7 r m) (n+1):=fun S cs ds x y aN w D hy=>by
 obtain⟨i,zv,hi,hs,_⟩:=ti.get
 have hcell:P.cellsOf e=r.sz:=by unfold Program.cellsOf;rw [hi];simp [hs,hsz]
 have e1:(n7 r m).val cs= .agg cs.toArray:=rfl
 have e2:(n7 r m).val ds= .agg ds.toArray:=rfl
 rw [e1,e2,show aN+(n+1)=(aN+n)+1 from rfl,run_equalIn_array w (aN+n) cs.toArray ds.toArray M hi,List.range_eq_range',hcell]
 have key: ∀k j,j+k=m->(Op.eqItems (aN+n) e r.sz cs.toArray ds.toArray (List.range' j k)).run P w= .ok (decide (x.drop j=y.drop j)) w:=by
  intro k
  induction k with
  |zero=>
   intro j hj
   rw [o6 (by have:=D.1;omega),o6 (by have:=hy.1;omega)]
   rfl
  |succ k ih=>
   intro j hj
   have hjx:j<x.length:=by have:=D.1;omega
   have hjy:j<y.length:=by have:=hy.1;omega
   have A:=qu ti hsz hag (KM (r:=r) (m:=m) (i:=j) (by omega)) D w
   have V:=qu ti hsz hag (KM (r:=r) (m:=m) (i:=j) (by omega)) hy w
   have h3:=he S _ _ _ _ aN w (KM (r:=r) (m:=m) (i:=j) (by omega) S cs x D) (KM (r:=r) (m:=m) (i:=j) (by omega) S ds y hy)
   rw [List.range'_succ]
   unfold Op.eqItems
   simp only [qZ,A,V,h3,sq]
   have ex:x.drop j=(x[j]?).getD default::x.drop (j+1):=by rw [qf hjx];exact rn hjx
   have ey:y.drop j=(y[j]?).getD default::y.drop (j+1):=by rw [qf hjy];exact rn hjy
   rw [ex,ey]
   by_cases hq:(x[j]?).getD default=(y[j]?).getD default
   ·simp only [hq,decide_true,qg,lh,jB]
    rw [ih (j+1) (by omega)]
    congr 1
    simp
   ·simp [hq]
 have:=key m 0 (by omega)
 simpa using this
section
variable{ty:TypeId}
def ub{xs:List Operand}{sz' bytes' :Nat}{agg' :Bool}{z' :List Value}(M:E.P.underlying t=some (.array m T))(ti:TI E.P T sz bytes agg z)(hsz:r.sz=sz)(tj:TI E.P t sz' bytes' agg' z')(hz:z'.length=m*r.sz)(hm:m=ys.length)(D:j3 E.N G xs (ys.map (K r))):ce E O G ⟨dst,.build t (AZ 0 xs).toArray,ty,pos,after,g⟩ (K (n7 r m) ys):=
 .of_pure fun a w S _ _ hF=>by
  obtain⟨zv,hzr,hzc⟩:=tj.zero w
  obtain⟨cs,hc,hfill⟩:=Hz ys (xs.map a.eval) 0 [] z' (D.tys hF) (by simp) (by rw [hz,hm])
  subst hsz
  have hparts:((AZ 0 xs).toArray.map fun(i,x)=>(i,a.eval x)).toList=Fg 0 (xs.map a.eval):=by simpa using Ev a.eval 0 xs
  rw [pe,pe]at hfill
  refine⟨.agg cs.toArray,?_,cs,rfl,hm.symm,hc⟩
  simp only [execOp,Instr.build,qZ,hzr,sq,jx M,ti.sizeOf,hzc,hparts,hfill]
  simp
end
end Go.Proofs.YtigldkegamffhaaGreatDoor

