/- di of this claim: W45, W46, W47, W52, W53, W56, W57, W44, W55, W15, W29. -/
import Derived.Test.YtfhhakidodmdfaaGreatDoorJcV3
import Derived.OpenShut
import Derived.LaidMore
import Derived.Test.YtfhhakidodmdfaaGreatDoorJcV2
import Derived.Laws.Externs
import Derived.Shelf.SlSortCmp.NoneTotal
import Derived.Shelf.Slices.In.SortNone
set_option linter.all false
namespace Go.Proofs.YtfhhakidodmdfaaGreatDoor
open Go Go.ChangeShapes Go.WideShapes Go.ChangeAt Go.RowKit

variable{Ds:List (DataW Unit)}{P:Program}{T:TypeId}{agg:Bool}{c:Nat}{cells:List Value}{α:Type}{d:Nat}{e:TypeId}{f:FuncId}{g:Option (Nat×Bool)}{i:Nat}{k:IntKind}{l:Option Nat}{n:Int}{off p:Nat}{t:TypeId}{xs:List α}
section
variable{W:World}{held:Bool}
def Zw(P:Program)(W:World)(held:Bool)(t:TypeId)(D:DataW Unit)(cells:List Value):Prop:=
 P.cellsOf t=cells.length∧ ∀fuel cs x,DataW.trod (fun _=>()) P W 0 (fun _=>true) held fuel t cs=some x→x.1=D→cs=cells
theorem sP(h:P.underlying t=some (.int k))(hc:P.cellsOf t=1):Zw P W held t (.lit (.int k n)) [.int k n]:=⟨hc,fun fuel cs x hx hD=>by
 obtain⟨m,h1,h2,_⟩:=DataW.trod_int h hx
 subst h2
 simp only [DataW.lit.injEq,Lit.int.injEq,true_and]at hD
 rw [h1,hD]⟩
theorem HW{s:List UInt8}(h:P.underlying t=some .string)(hc:P.cellsOf t=1):Zw P W held t (.lit (.string s)) [.string ⟨s.toArray⟩]:=⟨hc,fun fuel cs x hx hD=>by
 obtain⟨m,h1,h2,_⟩:=DataW.trod_string h hx
 subst h2
 simp only [DataW.lit.injEq,Lit.string.injEq]at hD
 subst hD
 rw [h1]⟩
def FC(P:Program)(W:World)(held:Bool)(off:Nat)(l:List (TypeId×Nat))(Ds:List (DataW Unit))(cells:List Value):Prop:=
 ∀(n:Nat) (cs:List Value),cs.length=off+cells.length→(∀(i:Nat) f,l[i]? =some f→ ∃x,DataW.trod (fun _=>()) P W 0 (fun _=>true) held n f.1 ((cs.drop f.2).take (P.cellsOf f.1))=some x∧Ds[i]? =some x.1)→cs.drop off=cells
theorem IN:FC P W held off [] [] []:=fun n cs hl _=>D5 (by simp at hl;omega)
theorem mU{off' :Nat}{l:List (TypeId×Nat)}{D:DataW Unit}{c:List Value}(h:Zw P W held t D c)(ho:off' =off+c.length)(k:FC P W held off' l Ds cells):FC P W held off ((t,off)::l) (D::Ds) (c++cells):=fun n cs hl hx=>by
 obtain⟨x,h1,h2⟩:=hx 0 (t,off) rfl
 simp only [F0,AO]at h2
 have h3:=h.2 n _ x h1 h2.symm
 have h4:=k n cs (by rw [hl,ho,jx];omega) fun i f hf=>by simpa using hx (i+1) f (by simpa using hf)
 have e:cs.drop off=(cs.drop off).take (P.cellsOf t)++cs.drop off' :=by
  rw [ho,←h.1,←oO,ut]
 rw [e,h4]
 exact congrArg (· ++cells) h3
theorem z8{l:List (TypeId×Nat)}(ht:(P.underlying t).map (fun d=>match d with| .struct l=>(true,l.toList.map fun f=>(f.type,f.offset))|_=>(false,[]))=some (true,l))(hc:P.cellsOf t=cells.length)(hf:FC P W held 0 l Ds cells):Zw P W held t (.agg Ds) cells:=⟨hc,fun fuel cs x hx hD=>by
 obtain⟨fs,h1,h2⟩: ∃fs,P.underlying t=some (.struct fs)∧fs.toList.map (fun f=>(f.type,f.offset))=l:=by
  cases hu:P.underlying t with
  |none=>rw [hu]at ht;cases ht
  |some d=>
   rw [hu]at ht
   cases d<;>simp at ht
   exact⟨_,rfl,ht⟩
 obtain⟨xs,n,rfl,h3,h4,h5,h6⟩:=DataW.trod_struct h1 hx
 rw [h3]at hD
 simp only [DataW.agg.injEq]at hD
 have:=hf n cs (by rw [h4,hc];omega) fun i f hi=>by
  rw [←h2,CT]at hi
  obtain⟨f0,hf0,rfl⟩:=wb.1 hi
  have h7:=h6 i f0 (by simpa using hf0)
  have hlt:i<xs.length:=by
   have:=(jP.1 hf0).1
   rw [h5];simpa using this
  rw [ph hlt]at h7
  exact⟨xs[i],h7,by rw [←hD];simp [hlt]⟩
 rwa [xn]at this⟩
theorem TU{m:Nat}(ht:P.underlying t=some (.array m e))(hc:P.cellsOf t=cells.length)(hf:FC P W held 0 ((List.range m).map fun i=>(e,i*P.cellsOf e)) Ds cells):Zw P W held t (.agg Ds) cells:=⟨hc,fun fuel cs x hx hD=>by
 obtain⟨xs,n,rfl,h3,h4,h5,h6⟩:=DataW.trod_array ht hx
 rw [h3]at hD
 simp only [DataW.agg.injEq]at hD
 have:=hf n cs (by rw [h4,hc];omega) fun i f hi=>by
  rw [CT]at hi
  obtain⟨j,hj,rfl⟩:=wb.1 hi
  obtain⟨hlt,hj2⟩:=jP.1 hj
  simp at hlt hj2
  subst hj2
  have h7:=h6 i hlt
  have hlt' :i<xs.length:=by rw [h5];exact hlt
  rw [ph hlt']at h7
  exact⟨xs[i],h7,by rw [←hD];simp [hlt']⟩
 rwa [xn]at this⟩
theorem KF: ∀{L:List (String×DataW Unit)} {ps:List MemPlace},DataW.LaidVars P W L ps→ ∀n d,(n,d)∈L→ ∃g t cs fuel p,P.globalNamed n=some g∧(P.globals[g]?).map (·.type)=some t∧W.var? P n=some cs∧DataW.trod (fun _=>()) P W 0 (fun _=>true) false fuel t cs.toList=some (d,p)
 |(_,_)::_,_,⟨g,t,cs,fuel,p,_,h1,h2,h3,h4,_,_⟩,_,_,.head _=>⟨g,t,cs,fuel,p,h1,h2,h3,h4⟩
 |(_,_)::_,_,⟨_,_,_,_,_,_,_,_,_,_,h,_⟩,n,d,.tail _ hm=>KF h n d hm
theorem IF{L:List (String×DataW Unit)}(h:laidMet P L W){n:String}{d:DataW Unit}(hm:(n,d)∈L){g:Nat}(hg:P.globalNamed n=some g)(ht:(P.globals[g]?).map (·.type)=some t)(hc:Zw P W false t d cells):
  ∃c T fr,W.heap[g]? =some (.cells c T fr)∧c.toList.take cells.length=cells:=by
 obtain⟨ps,hL,_,_⟩:=h
 obtain⟨g',t',cs,fuel,p,h1,h2,h3,h4⟩:=KF hL n d hm
 obtain rfl:=p5 (hg.symm.trans h1)
 obtain rfl:=p5 (ht.symm.trans h2)
 have h5:=hc.2 fuel _ _ h4 rfl
 unfold World.var? at h3
 rw [hg]at h3
 simp only [bu]at h3
 split at h3
 ·rename_i c T fr hb
  cases h3
  exact⟨_,_,_,hb,by rw [h5,xy]⟩
 ·cases h3
end

variable{enc:α→Value}
section
variable{H:Type}{enc:TypeId×Value→H}{W:World}
end

variable{G:lW}{S:SH}{r:Rp α}{y:Operand}
section
theorem hH{N:Fr}{y:α}{v:Value}{x:Operand}(hag:r.agg=true)(hr: ∀S,r.rc S [v] y)(h:aO N G x (tV (.agg #[v]))):aO N G x (tD r y):=fun S a hf=>⟨[v],by rw [Rp.val,bk hag];exact h S a hf,hr S⟩
end

section
variable{N:Nat}{w0:World}{S0:SH}{O1:List OE}{ι:Type}{t:ι→Ty}{O2:ι→List OE}
end
section
variable{c:Code}
end

variable{E:En}{O:List OE}{after:Array Edge}{b:Bool}{bytes:Nat}{pos:String}{sz:Nat}{ty:TypeId}{w:World}{z:List Value}
section
theorem Qx{x:α}{zs:List α}{y' :Operand}{k' :IntKind}(ti:TI E.P T sz bytes agg z)(hsz:r.sz=sz)(hz:Nat.beq z.length sz=true)(h128:Nat.ble bytes 2048=true)(ht:E.P.underlying t=some (.slice T))(hx: ∀S,r.rc S z x)(hy:aO E.N G y (tD (rI k) n))(hy' :aO E.N G y' (tD (rI k') n))(h:nR n x=some zs):
  EffOK E O G ⟨some d,.makeSlice t y y',ty,pos,after,g⟩ (fun i=>ez r T (i.h 0).1 (i.h 0).2 zs::O) (fun i=>tO r (i.h 0).1 (i.h 0).2 zs):=fun a w S hs ho hf hb=>by
 subst hsz
 obtain⟨i,zv,hi,h1,h2,h3,h4⟩:=ti.get
 obtain⟨m,rfl,hm,rfl⟩:=xC h
 have hyv:=cY.1 (hy S a hf)
 have hyv' :=cY.1 (hy' S a hf)
 have hz2:z.length=r.sz:=oV hz
 have h128' :=oP h128
 have hbytes:(i.bytes:Int)*(m:Int)≤281474976710656:=by
  have:i.bytes*m≤2048*68719476736:=xe (by omega) hm
  have h5:((i.bytes*m:Nat):Int)≤281474976710656:=by omega
  rwa [xx]at h5
 have hr:=run_make (P:=E.P) w t T i zv ht hi h3 k k' (m:Int) (m:Int) (by omega) (Int.le_refl _) hbytes (by omega)
 rw [AH,h1,h4]at hr
 obtain⟨he,hs'⟩:=qG (w:=w) (.cells (madeCells z.toArray (m*r.sz)) T (0,0)) hs
 have hrun:(execOp a.eval ⟨some d,.makeSlice t y y',ty,pos,after,g⟩).run E.P w= .ok (.value (.slice (some ⟨w.heap.size,0,none⟩) m m)) (w.alloc (.cells (madeCells z.toArray (m*r.sz)) T (0,0))):=by
  simp [execOp,hyv,hyv',hr]
 refine⟨fun c h=>(by cases h),?_⟩
 rw [hrun]
 have hfl:=flat_len hz2 m
 have hmc:=vF z m r.sz hz2
 have harr:CA true r T (some w.heap.size) m (List.replicate m x) (w.alloc (.cells (madeCells z.toArray (m*r.sz)) T (0,0))) (S.set w.heap.size (.cells (madeCells z.toArray (m*r.sz)) T (0,0))):=by
  refine⟨(List.replicate m z).flatten,⟨_,xv w _,by simp,by simp only [maxLen];omega,by rw [size_madeCells],?_⟩,vA hx _ m,fun b hb=>?_⟩
  ·rw [hmc,CW]
   exact sC (by omega)
  ·rw [←p5 hb]
   have e:madeCells z.toArray (m*r.sz)=((List.replicate m z).flatten).toArray:=by
    rw [←hmc]
   rw [bk rfl,←e]
   exact ow _ _ _
 refine⟨_,_,oi (some w.heap.size) m,rfl,he.more fun _ hb=>hb.elim,hs',qn ho he (e:=ez r T (some w.heap.size) m (List.replicate m x)) harr (fun b hb=>AK (p5 hb)) hb,?_⟩;refine⟨?_,?_⟩
 ·show _=bc _ _ _
  rw [CW];rfl
 ·have h9:=qe harr
  rw [CW]at h9
  exact h9
end
variable{fn:Func}{ts:List Ty}
theorem QI{c:Code}{N:Nat}{O1:List OE}{ι:Type}{t:ι→Ty}{O2:ι→List OE}(hf:P.funcs[f]? =some fn)(hb:fn.body=some c)(hN:fn.ntmps=N)(hn:Nat.ble ts.length N=true)(h: ∀w0 S0,CG ⟨P,⟨N,[]⟩,An O1,w0,S0,none⟩ (bodyPostM (fw none) 0 P fn (SJ ⟨P,⟨N,[]⟩,An O1,w0,S0,none⟩ O1 t O2)) c O1 (tX 0 ts)):dl P f ts O1 t O2:=by
 subst hN
 intro w S vs hs hv ho
 exact j4.1 (callsIn_of_wp_marks (F:=fw none) (n:=0) hf hb trivial (h w S _ w S ⟨gz.refl _ _ _,hs,kP ho fun f hf k hk=> .inr ⟨f,hf,hk⟩,mV hv _ (oP hn)⟩))
def LA(x y c:Int):Option (Int×Int):=if 0≤x∧0≤y∧0≤c∧c≤1 then some ((x+y+c)%18446744073709551616,(x+y+c)/18446744073709551616)else none
variable{ats:Array TypeId}{dst:Option Tmp}{u:Ty}
section
theorem Kz{s u c:Int}{R:Int×Int}{x z:Operand}(hf:E.P.funcs[f]? =some fn)(hname:(fn.name== "runtime.NumGoroutine")=false)(hb:fn.body.isNone=true)(hn:Extern.findNext fn=none)(he:Extern.find fn=some add64Entry)(hx:aO E.N G x (tD (rI .u64) s))(hy:aO E.N G y (tD (rI .u64) u))(hz:aO E.N G z (tD (rI .u64) c))(h:LA s u c=some R):
  bZ E O G ⟨dst,.call ⟨.value (.func f),#[x,y,z],ats⟩,ty,pos,after,g⟩ (tT [tD (rI .u64) R.1,tD (rI .u64) R.2]):= .of_pure fun a w S _ _ hF=>by
 have h1:a.eval x= .int .u64 s:=cY.1 (hx S a hF)
 have h2:a.eval y= .int .u64 u:=cY.1 (hy S a hF)
 have h5:a.eval z= .int .u64 c:=cY.1 (hz S a hF)
 unfold LA at h
 split at h
 ·rename_i hc
  cases h
  refine⟨.tuple #[.int .u64 ((s+u+c)%18446744073709551616),.int .u64 ((s+u+c)/18446744073709551616)],?_,[_,_],rfl,cY.2 rfl,cY.2 rfl,trivial⟩
  have h3:=run_callFunc_extern hf hname hb hn he #[.int .u64 s,.int .u64 u,.int .u64 c] w
  rw [run_add64 s u c hc.1 hc.2.1 hc.2.2.1 hc.2.2.2]at h3
  have h0:a.eval (.func f)= .func (.func f) #[] #[]:=rfl
  simp [execOp,resolve,h0,Deferred.ofValue,invoke,h1,h2,h5,h3,Result.andThen]
 ·cases h
end

theorem J{α:Sort _}{a:α}:a=a:=rfl
theorem aL:True:=trivial
abbrev bM(x:Int):Ty:=tD (rI .i64) x
abbrev hJ(x:Bool):Ty:=tD rB x
abbrev ky{α:Type}(l:List α):Ty:=tD (rI .i64) (l.length:Int)
abbrev nQ:Rp (List Int):=ik (rI .i64)
abbrev mH(l:List Int):Ty:=tD (ik (rI .i64)) l
abbrev cq{α:Type}(r:Rp α)(l:List α):Ty:=tD (ik r) l
abbrev sw{α:Type}(l:Option Nat)(c:Nat)(xs:List α):Ty:=tV (bc l c xs.length)
theorem bD: ∀{G' G:lW},G'.map (fun p=>dm G p.1)=G'.map (fun p=>some p.2)→Mn G' G
 |[],_,_=>trivial
 |(_,_)::_,_,h=>⟨(Gu h).1,bD (Gu h).2⟩

section
theorem cX{x:Nat}{t:Ty}(h:dm G x=some t):bZ E O G ⟨dst,.move (.tmp x),ty,pos,after,g⟩ t:=bJ (ht h)
theorem rN{x:Nat}{t:Ty}(h:dm G x=some t):bZ E O G ⟨dst,.assign (.tmp x),ty,pos,after,g⟩ t:=aT (ht h)
theorem bW:bZ E O G ⟨dst,.assign (.const (.int k n)),ty,pos,after,g⟩ (tD (rI k) n):=aT hI
theorem jU:bZ E O G ⟨dst,.assign (.const (.bool b)),ty,pos,after,g⟩ (tD rB b):=aT hB
theorem bh{x:α}{U:TypeId}(ti:TI E.P U sz bytes agg z)(hp:dm G p=some (bN r x))(hs:(r.sz,r.agg)=(sz,agg)):
  bZ E O G ⟨dst,.load U (.tmp p),ty,pos,after,g⟩ (tD r x):=bj ti (Prod.mk.inj hs).1 (Prod.mk.inj hs).2 (ht hp)
theorem bX{β:Type}{q:Rp β}{get:α→β}{x:α}(hf:da E.P T i=some (off,sz))(hq:pY r off q get)(hp:dm G p=some (bN r x))(h0:(!(Nat.beq sz 0)&&Nat.ble (off+q.sz) r.sz)=true):bZ E O G ⟨dst,.fieldAddr T (.tmp p) i,ty,pos,after,g⟩ (bN q (get x)):=
 oD hf (by cases h:Nat.beq sz 0<;>simp [h]at h0 ⊢) hq (by revert h0;cases Nat.ble (off+q.sz) r.sz<;>simp) (ht hp)
theorem jw{x:Nat}(hu:E.P.underlying t=some (.slice e))(hx:dm G x=some (tD (ik r) xs)):
  bZ E O G ⟨dst,.call ⟨.builtin .len,#[.tmp x],#[t]⟩,ty,pos,after,g⟩ (tD (rI .i64) (xs.length:Int)):=dK hu (ht hx)
theorem dX{x:Nat}{t:Ty}(hi:ts[i]? =some t)(hx:dm G x=some (tT ts)):bZ E O G ⟨dst,.extract (.tmp x) i,ty,pos,after,g⟩ t:=MU hi (ht hx)
theorem gi{v:α}{x:Nat}(hx:dm G x=some (tD r v)):bZ E O G ⟨dst,.box T (.tmp x),ty,pos,after,g⟩ (bN r v):=MW (ht hx)
theorem pH{x:Nat}{q:Bool}(hc:dm G c=some (tD rB b))(hx:dm G x=some (po b (tD rB q))):bZ E O G ⟨dst,.pick (.tmp c) (.tmp x) (.const (.bool false)),ty,pos,after,g⟩ (tD rB (b&&q)):=jo (ht hc) (fun hb=>bm hx hb)
theorem uo{x:Nat}{q:Bool}(hc:dm G c=some (tD rB b))(hx:dm G x=some (po (!b) (tD rB q))):bZ E O G ⟨dst,.pick (.tmp c) (.const (.bool true)) (.tmp x),ty,pos,after,g⟩ (tD rB (b||q)):=pT (ht hc) (fun hb=>bm hx (qo hb))
variable{xt yt:TypeId}{x y:Nat}{m:Int}
theorem fY(hx:dm G x=some (tD (rI k) m))(hy:dm G y=some (tD (rI k) n)):bZ E O G ⟨dst,.binOp .lss xt (.tmp x) (.tmp y) yt,ty,pos,after,g⟩ (tD rB (decide (m<n))):=dJ (ht hx) (ht hy)
theorem hM{j:IntKind}(hx:dm G x=some (tD (rI j) m)):bZ E O G ⟨dst,.binOp .eql xt (.tmp x) (.const (.int j n)) yt,ty,pos,after,g⟩ (tD rB (m==n)):=cd (ht hx) hI
theorem sx{j:IntKind}(hx:dm G x=some (tD (rI j) m)):bZ E O G ⟨dst,.binOp .neq xt (.tmp x) (.const (.int j n)) yt,ty,pos,after,g⟩ (tD rB (m !=n)):=c9 (ht hx) hI
theorem ne{y:α}{x ix:Nat}{k:IntKind}{i:Int}(hu:E.P.underlying t=some (.slice e))(ti:TI E.P e sz bytes agg z)(hsz:r.sz=sz)(hx:dm G x=some (tD (ik r) xs))(hi:dm G ix=some (tD (rI k) i))(hy:de xs i=some y):
  bZ E O G ⟨dst,.indexAddr t (.tmp x) (.tmp ix),ty,pos,after,g⟩ (bN r y):=bF hu ti hsz (ht hx) (ht hi) hy
theorem nf{x:Nat}{xt yt:TypeId}(hi:i<9223372036854775807)(hx:dm G x=some (tD (rI .i64) (i:Int))):
  bZ E O G ⟨dst,.binOp .add xt (.tmp x) (.const (.int .i64 1)) yt,ty,pos,after,g⟩ (tD (rI .i64) ((i+1:Nat):Int)):=rF hi (ht hx) hI
theorem je{b o:Nat}(n:Nat)(hf:da E.P T i=some (off,sz))(h0:Nat.beq sz 0=false)(hp:dm G p=some (tV (aS b o)))(he:o+off=n):bZ E O G ⟨dst,.fieldAddr T (.tmp p) i,ty,pos,after,g⟩ (tV (aS b n)):=o3 (n:=n) hf h0 (ht hp) he
end
variable{Q:Exit→Act→World→Prop}{op:Op}{ops:Array Oper}
section
variable{l:List Oper}
theorem zo{t:Ty}(hd:Nat.blt d E.N.n=true)(h:bZ E O G ⟨some d,op,ty,pos,after,none⟩ t)(k:RG E ops Q l O ((d,t)::G)):
  RG E ops Q (⟨some d,op,ty,pos,after,none⟩::l) O G:=qF h hd k
def WV(n d:Nat)(r:Option Ty):Option Ty:=if Nat.blt d n then r else none
theorem lz{n:Nat}{r:Option Ty}{t:Ty}(h:WV n d r=some t):Nat.blt d n=true∧r=some t:=by
 unfold WV at h;split at h
 case isTrue h1=>exact⟨h1,h⟩
 case isFalse=>cases h
theorem aE{x:Nat}{t:Ty}(h:WV E.N.n d (dm G x)=some t)(k:RG E ops Q l O ((d,t)::G)):
  RG E ops Q (⟨some d,.move (.tmp x),ty,pos,after,none⟩::l) O G:=qF (bJ (ht (lz h).2)) (lz h).1 k
theorem bg{x:Nat}{t:Ty}(h:WV E.N.n d (dm G x)=some t)(k:RG E ops Q l O ((d,t)::G)):
  RG E ops Q (⟨some d,.assign (.tmp x),ty,pos,after,none⟩::l) O G:=qF (aT (ht (lz h).2)) (lz h).1 k
theorem aq{y:Code}(h:CG E Q y O G):RG E ops (Exit.then (y.wpIn (fw E.r) 0 E.P Q) Q) [] O G:=aQ (ax h)
theorem av{id:Nat}{l:List Oper}{y:Code}(h:RG E l.toArray (Exit.then (y.wpIn (fw E.r) 0 E.P Q) Q) l O G):CG E Q (.seq (.region id l.toArray false) y) O G:=ah (aA h)
theorem ce{β:Type _}{X Y:Option β}{r:β}{x y:Code}(h:(if b=true then X else Y)=some r)(hb:dm G c=some (tD rB b))(hx:X=some r→CG E Q x O G)(hy:Y=some r→CG E Q y O G):CG E Q (.cond (.tmp c) x y) O G:=
 pg (ht hb) (fun hc=>hx (ct h hc)) (fun hc=>hy (cf h hc))
theorem df{y:Code}(h:CG E Q y O G):CG E (Exit.then (y.wpIn (fw E.r) 0 E.P Q) Q) .skip O G:=bA (ax h)
theorem co{j gs:Nat}{t:Ty}(hj:(ops[j]?).bind (·.dst)=some gs)(hg:WV E.N.n gs (WV E.N.n d (dm G gs))=some (tD rB b))(h:b=true→bZ E O G ⟨some d,op,ty,pos,after,some (j,true)⟩ t)(k:RG E ops Q l O ((d,po b t)::G)):RG E ops Q (⟨some d,op,ty,pos,after,some (j,true)⟩::l) O G:=WA hj (lz hg).1 (lz (lz hg).2).2 (lz (lz hg).2).1 h k
theorem dD{j gs:Nat}{t:Ty}(hj:(ops[j]?).bind (·.dst)=some gs)(hg:WV E.N.n gs (WV E.N.n d (dm G gs))=some (tD rB b))(h:(!b)=true→bZ E O G ⟨some d,op,ty,pos,after,some (j,false)⟩ t)(k:RG E ops Q l O ((d,po (!b) t)::G)):RG E ops Q (⟨some d,op,ty,pos,after,some (j,false)⟩::l) O G:=WB hj (lz hg).1 (lz (lz hg).2).2 (lz (lz hg).2).1 h k
end
theorem bo{α:Type _}{β:Type _}{x:Option α}{k:α→Option β}{r:β}{P:Prop}(h:x.bind k=some r)(f: ∀y,x=some y→k y=some r→P):P:=by
 obtain⟨y,h1,h2⟩:=bs h;exact f y h1 h2
variable{u1:Ty}
section
variable{l:List Oper}{o:Oper}{t:Ty}
theorem DD{a c:Bool}(h:(a&&b&&c)=true):a=true∧b=true∧c=true:=by revert h;cases a<;>cases b<;>cases c<;>simp
theorem Z9{x:Option α}(h:x.isNone=true):x=none:=by cases x;rfl;cases h
theorem NX(h:ts[i]? =some t)(hb:(fd i o&&o.guard.isNone)=true)(k:bZ E O [] o t): ∃(needs:List Nd) (t:Ty),ts[i]? =some t∧ul G ts needs∧(needs.all (qf l o i))=true∧fd i o=true∧cv E O l.toArray (ko needs) o t:=
 ⟨[],t,h,trivial,rfl,(CV.1 hb).1,aD (Z9 (CV.1 hb).2) k⟩
theorem dB(a:Nat)(h:ts[i]? =some t)(hu:yn G ts ⟨a,u,none⟩)(hb:([(⟨a,u,none⟩:Nd)].all (qf l o i)&&fd i o&&o.guard.isNone)=true)(k:bZ E O [(a,u)] o t): ∃(needs:List Nd) (t:Ty),ts[i]? =some t∧ul G ts needs∧(needs.all (qf l o i))=true∧fd i o=true∧cv E O l.toArray (ko needs) o t:=
 ⟨[(⟨a,u,none⟩:Nd)],t,h,⟨hu,trivial⟩,(DD hb).1,(DD hb).2.1,aD (Z9 (DD hb).2.2) k⟩
theorem bT(a:Nat)(j:Nat)(h:ts[i]? =some t)(hu:yn G ts ⟨a,u,(some j)⟩)(hb:([(⟨a,u,(some j)⟩:Nd)].all (qf l o i)&&fd i o&&o.guard.isNone)=true)(k:bZ E O [(a,u)] o t): ∃(needs:List Nd) (t:Ty),ts[i]? =some t∧ul G ts needs∧(needs.all (qf l o i))=true∧fd i o=true∧cv E O l.toArray (ko needs) o t:=
 ⟨[(⟨a,u,(some j)⟩:Nd)],t,h,⟨hu,trivial⟩,(DD hb).1,(DD hb).2.1,aD (Z9 (DD hb).2.2) k⟩
theorem qR(a:Nat)(a1:Nat)(j1:Nat)(h:ts[i]? =some t)(hu:yn G ts ⟨a,u,none⟩)(hu1:yn G ts ⟨a1,u1,(some j1)⟩)(hb:([(⟨a,u,none⟩:Nd),⟨a1,u1,(some j1)⟩].all (qf l o i)&&fd i o)=true)(k:cv E O l.toArray [(a,u),(a1,u1)] o t): ∃(needs:List Nd) (t:Ty),ts[i]? =some t∧ul G ts needs∧(needs.all (qf l o i))=true∧fd i o=true∧cv E O l.toArray (ko needs) o t:=
 ⟨[(⟨a,u,none⟩:Nd),⟨a1,u1,(some j1)⟩],t,h,⟨hu,hu1,trivial⟩,(CV.1 hb).1,(CV.1 hb).2,k⟩
theorem cK(a:Nat)(j:Nat)(a1:Nat)(j1:Nat)(h:ts[i]? =some t)(hu:yn G ts ⟨a,u,(some j)⟩)(hu1:yn G ts ⟨a1,u1,(some j1)⟩)(hb:([(⟨a,u,(some j)⟩:Nd),⟨a1,u1,(some j1)⟩].all (qf l o i)&&fd i o&&o.guard.isNone)=true)(k:bZ E O [(a,u),(a1,u1)] o t): ∃(needs:List Nd) (t:Ty),ts[i]? =some t∧ul G ts needs∧(needs.all (qf l o i))=true∧fd i o=true∧cv E O l.toArray (ko needs) o t:=
 ⟨[(⟨a,u,(some j)⟩:Nd),⟨a1,u1,(some j1)⟩],t,h,⟨hu,hu1,trivial⟩,(DD hb).1,(DD hb).2.1,aD (Z9 (DD hb).2.2) k⟩
theorem kj(a:Nat)(j:Nat)(a1:Nat)(j1:Nat)(h:ts[i]? =some t)(hu:yn G ts ⟨a,u,(some j)⟩)(hu1:yn G ts ⟨a1,u1,(some j1)⟩)(hb:([(⟨a,u,(some j)⟩:Nd),⟨a1,u1,(some j1)⟩].all (qf l o i)&&fd i o)=true)(k:cv E O l.toArray [(a,u),(a1,u1)] o t): ∃(needs:List Nd) (t:Ty),ts[i]? =some t∧ul G ts needs∧(needs.all (qf l o i))=true∧fd i o=true∧cv E O l.toArray (ko needs) o t:=
 ⟨[(⟨a,u,(some j)⟩:Nd),⟨a1,u1,(some j1)⟩],t,h,⟨hu,hu1,trivial⟩,(CV.1 hb).1,(CV.1 hb).2,k⟩
theorem GI(a:Nat)(j:Nat)(a1:Nat)(j1:Nat)(a2:Nat)(j2:Nat){u2:Ty}(h:ts[i]? =some t)(hu:yn G ts ⟨a,u,(some j)⟩)(hu1:yn G ts ⟨a1,u1,(some j1)⟩)(hu2:yn G ts ⟨a2,u2,(some j2)⟩)(hb:([(⟨a,u,(some j)⟩:Nd),⟨a1,u1,(some j1)⟩,⟨a2,u2,(some j2)⟩].all (qf l o i)&&fd i o&&o.guard.isNone)=true)(k:bZ E O [(a,u),(a1,u1),(a2,u2)] o t): ∃(needs:List Nd) (t:Ty),ts[i]? =some t∧ul G ts needs∧(needs.all (qf l o i))=true∧fd i o=true∧cv E O l.toArray (ko needs) o t:=
 ⟨[(⟨a,u,(some j)⟩:Nd),⟨a1,u1,(some j1)⟩,⟨a2,u2,(some j2)⟩],t,h,⟨hu,hu1,hu2,trivial⟩,(DD hb).1,(DD hb).2.1,aD (Z9 (DD hb).2.2) k⟩
theorem uw(a:Nat)(j:Nat)(a1:Nat)(j1:Nat)(a2:Nat)(j2:Nat){u2:Ty}(h:ts[i]? =some t)(hu:yn G ts ⟨a,u,(some j)⟩)(hu1:yn G ts ⟨a1,u1,(some j1)⟩)(hu2:yn G ts ⟨a2,u2,(some j2)⟩)(hb:([(⟨a,u,(some j)⟩:Nd),⟨a1,u1,(some j1)⟩,⟨a2,u2,(some j2)⟩].all (qf l o i)&&fd i o)=true)(k:cv E O l.toArray [(a,u),(a1,u1),(a2,u2)] o t): ∃(needs:List Nd) (t:Ty),ts[i]? =some t∧ul G ts needs∧(needs.all (qf l o i))=true∧fd i o=true∧cv E O l.toArray (ko needs) o t:=
 ⟨[(⟨a,u,(some j)⟩:Nd),⟨a1,u1,(some j1)⟩,⟨a2,u2,(some j2)⟩],t,h,⟨hu,hu1,hu2,trivial⟩,(CV.1 hb).1,(CV.1 hb).2,k⟩
end

def va{α:Type}(cmp:α×α→Option Int)(x y:α):Bool:=
 match cmp (x,y)with
 |some c=>decide (c<0)
 |none=>false
def ID{α:Type}(lt:α→α→Bool)(x:α):List α→List α
 |[]=>[x]
 |y::ys=>if lt y x then y::ID lt x ys else x::y::ys
def zI{α:Type}(lt:α→α→Bool):List α→List α
 |[]=>[]
 |x::xs=>ID lt x (zI lt xs)
structure AB{α:Type}(cmp:α×α→Option Int)(xs:List α):Prop where
 len:xs.length≤1099511627776
 tot: ∀x∈xs,∀y∈xs,(cmp (x,y)).isSome=true
 irr: ∀x∈xs,va cmp x x=false
 tr: ∀x∈xs,∀y∈xs,∀z∈xs,va cmp x y=true→va cmp y z=true→va cmp x z=true
 anti: ∀x∈xs,∀y∈xs,va cmp x y=false→va cmp y x=false→x=y
def R7{α:Type} [DecidableEq α](cmp:α×α→Option Int)(xs:List α):Bool:=
 decide (xs.length≤1099511627776)&&xs.all (fun x=>xs.all fun y=>(cmp (x,y)).isSome)&&xs.all (fun x=> !va cmp x x)&&
  xs.all (fun x=>xs.all fun y=>xs.all fun z=> !(va cmp x y&&va cmp y z)||va cmp x z)&&xs.all (fun x=>xs.all fun y=>va cmp x y||va cmp y x||decide (x=y))
variable{cmp:α×α→Option Int}
theorem KV [DecidableEq α]:R7 cmp xs=true↔AB cmp xs:=by
 unfold R7
 simp only [mz,ki,qO,Dn,lX,Bool.and_eq_false_imp]
 constructor
 ·rintro⟨⟨⟨⟨h1,h2⟩,h3⟩,h4⟩,h5⟩
  refine⟨h1,h2,h3,fun x hx y hy z hz a b=>?_,fun x hx y hy a b=>?_⟩
  ·rcases h4 x hx y hy z hz with h|h
   ·rw [h a]at b;cases b
   ·exact h
  ·rcases h5 x hx y hy with(h|h)|h
   ·rw [h]at a;cases a
   ·rw [h]at b;cases b
   ·exact h
 ·rintro⟨h1,h2,h3,h4,h5⟩
  refine⟨⟨⟨⟨h1,h2⟩,h3⟩,fun x hx y hy z hz=>?_⟩,fun x hx y hy=>?_⟩
  ·cases h6:va cmp x y with
   |false=>exact .inl (fun h=>by cases h)
   |true=>
    cases h7:va cmp y z with
    |false=>exact .inl (fun _=>rfl)
    |true=>exact .inr (h4 x hx y hy z hz h6 h7)
  ·cases h6:va cmp x y with
   |true=>exact .inl (.inl rfl)
   |false=>
    cases h7:va cmp y x with
    |true=>exact .inl (.inr rfl)
    |false=>exact .inr (h5 x hx y hy h6 h7)
def zA{α:Type} [DecidableEq α](cmp:α×α→Option Int)(xs:List α):Option (List α):=if R7 cmp xs then some (zI (va cmp) xs)else none
variable{ys:List α}
theorem Mo [DecidableEq α](h:zA cmp xs=some ys):AB cmp xs∧ys=zI (va cmp) xs:=by
 unfold zA at h
 split at h
 ·exact⟨KV.1 (by assumption),by simpa using h.symm⟩
 ·cases h
theorem Er [DecidableEq α](h:AB cmp xs):zA cmp xs=some (zI (va cmp) xs):=bk (KV.2 h)
def sortI(xs:List Int):List Int:=xs.mergeSort fun x y=>decide (x≤y)
theorem B7(xs:List Int):(sortI xs).length=xs.length:=by unfold sortI;simp
def Ep(xs:List Int):Option (List Int):=if xs.length≤68719476736 then some (sortI xs)else none
theorem JT{xs ys:List Int}(h:Ep xs=some ys):xs.length≤68719476736∧ys=sortI xs:=by
 unfold Ep at h
 split at h
 ·exact⟨by assumption,by simpa using h.symm⟩
 ·cases h

theorem Ck{α:Type}(lt:α→α→Bool)(x:α): ∀l:List α,(ID lt x l).Perm (x::l)
 |[]=> .refl _
 |y::ys=>by
  unfold ID
  split
  ·exact((Ck lt x ys).cons y).trans (.swap ..)
  ·exact .refl _
theorem tW{α:Type}(lt:α→α→Bool): ∀l:List α,(zI lt l).Perm l
 |[]=> .refl _
 |x::xs=>(Ck lt x _).trans ((tW lt xs).cons x)
theorem AB.ntr(h:AB cmp xs){x y z:α}(hx:x∈xs)(hy:y∈xs)(hz:z∈xs)(h1:va cmp x y=false)(h2:va cmp y z=false):va cmp x z=false:=by
 cases h3:va cmp x z with
 |false=>rfl
 |true=>
  cases h4:va cmp y x with
  |true=>rw [h.tr y hy x hx z hz h4 h3]at h2;cases h2
  |false=>
   have:=h.anti x hx y hy h1 h4
   subst this
   rw [h3]at h2;cases h2
theorem AB.asym(h:AB cmp xs){x y:α}(hx:x∈xs)(hy:y∈xs)(h1:va cmp x y=true):va cmp y x=false:=by
 cases h3:va cmp y x with
 |false=>rfl
 |true=>have:=h.tr x hx y hy x hx h1 h3;rw [h.irr x hx]at this;cases this
theorem C9{α:Type}{cmp:α×α→Option Int}{xs:List α}(h:AB cmp xs){x:α}(hx:x∈xs): ∀l:List α,(∀y∈l,y∈xs)→l.Pairwise (fun a b=>va cmp b a=false)→(ID (va cmp) x l).Pairwise (fun a b=>va cmp b a=false)
 |[],_,_=>List.pairwise_singleton _ _
 |y::ys,hm,hp=>by
  have hy:=hm y (lb ..)
  rw [BY]at hp
  unfold ID
  split
  ·rename_i hlt
   rw [BY]
   refine⟨fun z hz=>?_,C9 h hx ys (fun z hz=>hm z (lc _ hz)) hp.2⟩
   rcases gk.1 ((Ck _ x ys).mem_iff.1 hz)with e|e
   ·subst e;exact h.asym hy hx hlt
   ·exact hp.1 z e
  ·rename_i hlt
   rw [zW]at hlt
   refine BY.2 ⟨fun z hz=>?_,BY.2 hp⟩
   rcases gk.1 hz with e|e
   ·subst e;exact hlt
   ·exact h.ntr (hm z hz) hy hx (hp.1 z e) hlt
theorem wz{α:Type}{cmp:α×α→Option Int}{xs:List α}(h:AB cmp xs): ∀l:List α,(∀y∈l,y∈xs)→(zI (va cmp) l).Pairwise (fun a b=>va cmp b a=false)
 |[],_=>List.Pairwise.nil
 |x::ys,hm=>C9 h (hm x (lb ..)) _ (fun y hy=>hm y (lc _ ((tW _ ys).mem_iff.1 hy))) (wz h ys fun y hy=>hm y (lc _ hy))
open Go.Sort Go.Shelf

structure PG{α:Type}(r:Rp α)(S:SH)(XS:List α):Type where
 v:Value
 x:α
 h:r.rc S [v] x
 m:x∈XS
theorem aay{α:Type}{r:Rp α}(h1:r.sz=1){S:SH}{XS:List α}: ∀{xs:List α} {cs:List Value},u9 r S cs xs→(∀x∈xs,x∈XS)→ ∃d:List (PG r S XS),d.map PG.v=cs∧d.map PG.x=xs
 |[],cs,h,_=>⟨[],by rw [show cs=[]from h];rfl,rfl⟩
 |x::xs,cs,⟨a,b,e,h2,h3⟩,hm=>by
  obtain⟨d,e1,e2⟩:=aay h1 h3 fun y hy=>hm y (lc _ hy)
  have hl:=r.len h2
  rw [h1]at hl
  obtain⟨v,rfl⟩:=List.length_eq_one_iff.1 hl
  exact⟨⟨v,x,h2,hm x (lb ..)⟩::d,by rw [e,vm,e1];rfl,by rw [vm,e2]⟩
theorem Hg{α:Type}{r:Rp α}{S:SH}{XS:List α}: ∀d:List (PG r S XS),u9 r S (d.map PG.v) (d.map PG.x)
 |[]=>rfl
 |p::d=>⟨[p.v],_,rfl,p.h,Hg d⟩
variable{os:Array Obj}
theorem Bk{k:Nat}(h:k<w.heap.size):(grow w os).heap[k]? =w.heap[k]? :=by
 unfold grow;exact Array.getElem?_append_left h
theorem KU [Inhabited α]{b:Nat}{d:Array α}{k:Nat}(h:k≠b):(putRow enc w b off d).heap[k]? =w.heap[k]? :=by
 unfold putRow mapBlock
 rw [Array.getElem?_modify,aX (Ne.symm h)]
theorem qv [Inhabited α]{b m:Nat}{d:Array α}{k:Nat}(hk:k<w.heap.size)(h:k≠b):(sortWorld enc w b off m d os).heap[k]? =w.heap[k]? :=by
 unfold sortWorld
 rw [Bk (by rw [size_putRow];exact hk),KU h];rfl
theorem Bj [Inhabited α]{b m:Nat}{d:Array α}{c:Array Value}{fr:Nat×Nat}(h:w.heap[b]? =some (.cells c T fr)):
  (sortWorld enc w b off m d os).heap[b]? =some (.cells (putCells enc off d c) T fr):=by
 have hlt:=(wc.1 h).1
 unfold sortWorld
 rw [Bk (by rw [size_putRow];exact hlt)]
 unfold putRow mapBlock
 rw [Array.getElem?_modify,bk rfl]
 show Option.map _ (w.heap[b]?)=_
 rw [h];rfl
theorem zG [Inhabited α]{d:Array α}{c:Array Value}(h:d.size≤c.size):(putCells enc 0 d c).toList.take d.size=d.toList.map enc:=by
 apply Jt
 intro k
 by_cases hk:k<d.size
 ·rw [BZ hk]
  have hc:k<c.size:=by omega
  simp [putCells,hc,hk]
 ·rw [D9 (by simp;omega),D9 (by simp;omega)]
theorem Qv{w' :World}{S' :SH}(h:gz p7 w S w' S'): ∃q os,w' =grow (w.drewN q) os:=by
 refine⟨w'.drawn-w.drawn,w'.heap.extract w.heap.size w'.heap.size,?_⟩
 obtain⟨hp,t,dr,os,out⟩:=w'
 have h1:hp=w.heap++hp.extract w.heap.size hp.size:=by
  apply Array.ext_getElem?
  intro k
  have hs:=h.size
  simp only at hs
  by_cases hk:k<w.heap.size
  ·rw [Array.getElem?_append_left hk];exact h.heap k hk (fun h=>h)
  ·rw [Array.getElem?_append_right (by omega),Array.getElem?_extract]
   split
   ·congr 1;omega
   ·rename_i hlt
    rw [Array.getElem?_eq_none];omega
 have h2:=h.os;have h3:=h.tape;have h4:=h.output;have h5:=h.drawn
 simp only at h2 h3 h4 h5
 subst h2 h3 h4
 unfold grow World.drewN
 simp only
 congr 1
 omega

variable{cap:Nat}{ρ:Ren}
theorem Rj(L:SlLaysF.n6 P ρ) [DecidableEq α](hag:r.agg=false){fv:Value}(hs:jL w S)(h:(fL r T l cap xs).p w S)(hfv:(ei P (fun p:α×α=>[tD r p.1,tD r p.2]) (tD (rI .i64)) cmp).p S fv)(hy:zA cmp xs=some ys):
  Calls P (ρ.f 6) #[bc l cap xs.length,fv] w fun e w' =>e= .returned (.tuple #[])∧gz (fun k=>l=some k) w S w' S∧jL w' S∧(fL r T l cap ys).p w' S∧ys.length=xs.length:=by
 obtain⟨hG,hys⟩:=Mo hy
 have hperm:ys.Perm xs:=by rw [hys];exact tW _ xs
 have hlen:=hperm.length_eq
 have none' :xs=[]→Calls P (ρ.f 6) #[bc l cap xs.length,fv] w fun e w' =>e= .returned (.tuple #[])∧gz (fun k=>l=some k) w S w' S∧jL w' S∧(fL r T l cap ys).p w' S∧ys.length=xs.length:=by
  intro hx
  subst hx
  have e:ys=[]:=by rw [hys];rfl
  subst e
  cases l with
  |none=>exact(AnyF.slices_SortFunc_none (P:=P) (ρ:=ρ) {L with} none 0 fv w).mono fun _ _ ⟨h1,h2⟩=>by subst h2;exact⟨h1,gz.refl _ _ _,hs,h,rfl⟩
  |some b=>exact(AnyF.slices_SortFunc_none (P:=P) (ρ:=ρ) {L with} (some ⟨b,0,none⟩) cap fv w).mono fun _ _ ⟨h1,h2⟩=>by subst h2;exact⟨h1,gz.refl _ _ _,hs,h,rfl⟩
 cases l with
 |none=>exact none' (uu (by obtain⟨_,h4,_⟩:=h;exact h4.1))
 |some b=>
  obtain⟨cells0,⟨cur,hb,hle,hmax,hcs,hct⟩,hrc,hno0⟩:=h
  have hno:S b=none:=hno0 b rfl
  subst hct
  have h1:=r.sc hag
  rw [h1,Nat.mul_one]at hcs hrc
  obtain⟨d,hd1,sI⟩:=aay h1 hrc (fun x hx=>hx)
  have hdl:d.length=xs.length:=by have:=congrArg List.length sI;simpa using this
  cases hxs:xs with
  |nil=>rw [←hxs];exact none' hxs
  |cons x0 xs0=>
  rw [←hxs]
  have hne:0<d.length:=by rw [hdl,hxs];simp
  haveI:Inhabited (PG r S xs):=⟨d[0]⟩
  obtain⟨g,cb,rfl,hcal,hsp⟩:=hfv
  let enc:PG r S xs→Value:=PG.v
  let cf:PG r S xs→PG r S xs→Int:=fun p q=>(cmp (p.x,q.x)).getD 0
  have hcf: ∀p q,cmp (p.x,q.x)=some (cf p q):=fun p q=>by
   have:=hG.tot _ p.m _ q.m
   obtain⟨c,hc⟩:=Option.isSome_iff_exists.1 this
   show _=some ((cmp (p.x,q.x)).getD 0)
   rw [hc];rfl
  have hlt: ∀p q,ltOf cf p q=va cmp p.x q.x:=fun p q=>by
   unfold ltOf va;rw [hcf p q]
  have hO:SWO (ltOf cf):=⟨fun x=>by rw [hlt];exact hG.irr _ x.m,fun x y z a b=>by rw [hlt]at*;exact hG.tr _ x.m _ y.m _ z.m a b,fun x y z a b=>by rw [hlt]at*;exact hG.ntr x.m y.m z.m a b⟩
  have hblk:=(wc.1 hb).1
  have hcmp:CmpLays1 P g cb enc cf b 0 d.toArray.size w:=by
   intro m os dk hdk x y
   have hsat:jL (sortWorld enc w b 0 m dk os) S:=hs.same fun k o hk=>by
    have hkb:k≠b:=fun e=>by subst e;rw [hno]at hk;cases hk
    exact qv (hs.lt hk) hkb
   have:=hsp (x.x,y.x) _ (hcf x y) _ S [x.v,y.v] (SH.le_refl _) hsat ⟨⟨_,by unfold Rp.val;rw [hag];rfl,x.h⟩,⟨_,by unfold Rp.val;rw [hag];rfl,y.h⟩,trivial⟩
   refine this.mono fun e w' ⟨v,S'',he,hext,_,hv⟩=>⟨by rw [he,cY.1 hv],Qv hext⟩
  have hsz:d.toArray.size=xs.length:=by simpa using hdl
  have hH:Holds enc w b 0 d.toArray:=by
   intro j hj
   have hj' :j<d.length:=by simpa using hj
   have hc:cur[j]? =some (enc d.toArray[j]!):=by
    have:(cur.toList.take xs.length)[j]? =some (enc d.toArray[j]!):=by
     rw [←hd1,CT,getElem!_pos d.toArray j hj]
     simp [hj',enc]
    rw [BZ (by omega)]at this
    simpa using this
   refine⟨by simp [World.cell?,hb,hc],?_⟩
   simp [World.frozen?,hb]
  have hcall:=Any.slices_SortFunc L enc (fun p=>r.one p.h _ (List.mem_singleton_self _)) cf hO g cb b 0 cap d.toArray w (fun args w=>eU hcal args w) hcmp hH hblk (by rw [hsz];have:=hG.len;omega)
  rw [hsz]at hcall
  refine hcall.mono fun e w' ⟨he,d',n,os,⟨hp1,_,hp2⟩,hso,hw⟩=>?_
  have hd's:d'.size=xs.length:=by rw [hp1,hsz]
  have hp3:d'.toList.Perm d:=by
   have e1:d'.extract 0 xs.length=d' :=by rw [←hd's];exact Array.extract_size
   have e2:d.toArray.extract 0 xs.length=d.toArray:=by rw [←hsz];exact Array.extract_size
   rw [e1,e2]at hp2
   simpa using hp2
  have hyd:ys=d'.toList.map PG.x:=by
   have hp4:(d'.toList.map PG.x).Perm xs:=by have:=hp3.map PG.x;rwa [sI]at this
   refine List.Perm.eq_of_pairwise (le:=fun a b=>va cmp b a=false) ?_ ?_ ?_ (hperm.trans hp4.symm)
   ·intro a c ha hc h5 h6
    exact hG.anti a (hperm.mem_iff.1 ha) c (hp4.mem_iff.1 hc) h6 h5
   ·rw [hys];exact wz hG xs fun y hy=>hy
   ·rw [List.pairwise_iff_getElem]
    intro i j hi hj hij
    have hj' :j<d'.size:=by simpa using hj
    have:=hso i j (mA _) hij (by omega)
    rw [hlt,getElem!_pos d' j hj',getElem!_pos d' i (by omega)]at this
    simpa using this
  subst hw
  refine⟨he,⟨rfl,rfl,rfl,Nat.le_add_right _ _,?_,fun k hk hkb=>qv hk (fun e=>hkb (by rw [e])),SH.le_refl _,fun _ _ _=>rfl⟩,hs.same fun k o hk=>?_,⟨_,⟨_,Bj hb,by omega,hmax,?_,rfl⟩,?_,hno0⟩,hlen⟩
  ·unfold sortWorld;rw [size_grow,size_putRow];exact Nat.le_add_right _ _
  ·have hkb:k≠b:=fun e=>by subst e;rw [hno]at hk;cases hk
   exact qv (hs.lt hk) hkb
  ·simp [putCells,h1,hcs]
  ·rw [h1,Nat.mul_one,hlen,←hd's,zG (by omega),hyd]
   exact Hg d'.toList

variable{rest:List Oper}
section
theorem FG(L:SlLaysF.n6 E.P ρ)(hf:ρ.f 6=f)(hc:an E.P f=true) [DecidableEq α](hag:r.agg=false){n:Nat}{x:Operand}(hy' :zA cmp xs=some ys)(hx:aO E.N G x (tV (bc l cap n)))(hn:n=xs.length)(hy:aO E.N G y (ei E.P (fun p:α×α=>[tD r p.1,tD r p.2]) (tD (rI .i64)) cmp))(hd:Nat.blt d E.N.n=true)(k:ys.length=n→RG E ops Q rest (fL r T l cap ys::O) ((d,AX)::G)):RG E ops Q (⟨some d,.call ⟨.value (.func f),#[x,y],ats⟩,ty,pos,after,none⟩::rest) (fL r T l cap xs::O) G:= .of rfl fun a w S st=>by
 subst hf
 subst hn
 have h1:a.eval x=bc l cap xs.length:=hx S a st.facts
 have hr:(execOp a.eval ⟨some d,.call ⟨.value (.func (ρ.f 6)),#[x,y],ats⟩,ty,pos,after,none⟩).run E.P w= .ok (.enter (ρ.f 6) #[bc l cap xs.length,a.eval y]) w:=by
  have e0:a.eval (.func (ρ.f 6))= .func (.func (ρ.f 6)) #[] #[]:=rfl
  simp [execOp,resolve,e0,h1,Deferred.ofValue,invoke,eU hc]
 refine⟨fun c h=>(by cases h),?_⟩
 rw [hr]
 refine(Rj L hag st.sat st.own.1.1 (hy S a st.facts) hy').mono fun e w' ⟨he,hext,hsat,hp,hlen⟩=>⟨_,he,?_⟩
 have hfp: ∀g∈O,∀b,g.fp b→ ¬(l=some b):=fun g hg b hb hl=>st.own.2.1 g hg b hl hb
 refine k hlen _ _ S ⟨st.ext.step hext (fun c hc=>st.own.1.2 c hc),hsat,⟨⟨hp,st.own.1.2⟩,st.own.2.1,st.own.2.2.ext hext hfp⟩,?_⟩;exact(st.facts.mono hext.keep).put hd trivial
theorem o7{n m:Nat}(hl:m=n)(s:Nat)(hs:dm G s=some (tV (bc l cap n)))(k:RG E ops Q rest O ((s,tV (bc l cap m))::G)):RG E ops Q rest O G:=by
 subst hl
 exact fun a w S st=>k a w S ⟨st.ext,st.sat,st.own,⟨st.facts.size,st.facts.defers,fun j t h=>by
  unfold dm at h
  by_cases hb:Nat.beq s j=true
  ·rw [hb]at h
   have:=oV hb
   subst this
   have e:tV (bc l cap m)=t:=by simpa using h
   rw [←e];exact st.facts.at_ s _ hs
  ·rw [zW]at hb
   rw [hb]at h
   exact st.facts.at_ j t h⟩⟩
end

theorem N9{k:IntKind}{S:SH}: ∀{xs:List Int} {cs:List Value},u9 (rI k) S cs xs→cs=xs.map (Value.int k)
 |[],cs,h=>by rw [show cs=[]from h];rfl
 |x::xs,cs,⟨a,b,e,h1,h2⟩=>by
  rw [e,show a=[.int k x]from h1,N9 h2]
  rfl
theorem Oz{k:IntKind}{S:SH}: ∀xs:List Int,u9 (rI k) S (xs.map (Value.int k)) xs
 |[]=>rfl
 |x::xs=>⟨[.int k x],_,rfl,rfl,Oz xs⟩
theorem PR(L:Lays.n189 P ρ){xs:List Int}(hlen0:xs.length≤68719476736)(hs:jL w S)(h:(fL (rI .i64) T l cap xs).p w S):
  Calls P (ρ.f 189) #[bc l cap xs.length] w fun e w' =>e= .returned (.tuple #[])∧gz (fun k=>l=some k) w S w' S∧jL w' S∧(fL (rI .i64) T l cap (sortI xs)).p w' S:=by
 cases l with
 |none=>
  have hx:xs=[]:=uu (by obtain⟨_,h4,_⟩:=h;exact h4.1)
  subst hx
  exact(Any.slices_Sort_int_none (P:=P) (ρ:=ρ) L none 0 w).mono fun _ _ ⟨h1,h2⟩=>by subst h2;exact⟨h1,gz.refl _ _ _,hs,by simpa [sortI] using h⟩
 |some b=>
  obtain⟨cells0,⟨cur,hb,hle,hmax,hcs,hct⟩,hrc,hno0⟩:=h
  have hno:S b=none:=hno0 b rfl
  subst hct
  have h1:(rI .i64).sz=1:=rfl
  rw [h1,Nat.mul_one]at hcs hrc
  have hcells:=N9 hrc
  have hH:Holds (Value.int .i64) w b 0 xs.toArray:=by
   intro j hj
   have hj' :j<xs.length:=by simpa using hj
   have hc:cur[j]? =some (Value.int .i64 xs.toArray[j]!):=by
    have:(cur.toList.take xs.length)[j]? =some (Value.int .i64 xs.toArray[j]!):=by
     rw [hcells,CT,getElem!_pos xs.toArray j hj]
     simp [hj']
    rw [BZ (by omega)]at this
    simpa using this
   refine⟨by simp [World.cell?,hb,hc],?_⟩
   simp [World.frozen?,hb]
  have hblk:=(wc.1 hb).1
  have hcall:=calls_of_every_depth fun D=>AnyS.slices_Sort_int_alone (P:=P) (ρ:=ρ) L D b 0 cap xs w hH hblk (by omega)
  refine hcall.mono fun e w' ⟨he,n,os,hw⟩=>?_
  have hlen:=B7 xs
  have hw2:w' =sortWorld (Value.int .i64) w b 0 n (sortI xs).toArray os:=hw
  subst hw2
  refine⟨he,⟨rfl,rfl,rfl,Nat.le_add_right _ _,?_,fun k hk hkb=>qv hk (fun e=>hkb (by rw [e])),SH.le_refl _,fun _ _ _=>rfl⟩,hs.same fun k o hk=>?_,⟨_,⟨_,Bj hb,by omega,hmax,?_,rfl⟩,?_,hno0⟩⟩
  ·unfold sortWorld;rw [size_grow,size_putRow];exact Nat.le_add_right _ _
  ·have hkb:k≠b:=fun e=>by subst e;rw [hno]at hk;cases hk
   exact qv (hs.lt hk) hkb
  ·simp [putCells,h1,hcs]
  ·have e1:(sortI xs).length*(rI .i64).sz=(sortI xs).toArray.size:=by rw [h1];simp
   rw [e1,zG (by simp;omega)]
   exact Oz (sortI xs)
section
theorem Tn(L:Lays.n189 E.P ρ)(hf:ρ.f 189=f)(hc:an E.P f=true){n:Nat}{xs ys:List Int}{x:Operand}(hy:Ep xs=some ys)(hx:aO E.N G x (tV (bc l cap n)))(hn:n=xs.length)(hd:Nat.blt d E.N.n=true)(k:ys.length=n→RG E ops Q rest (fL (rI .i64) T l cap ys::O) ((d,AX)::G)):RG E ops Q (⟨some d,.call ⟨.value (.func f),#[x],ats⟩,ty,pos,after,none⟩::rest) (fL (rI .i64) T l cap xs::O) G:= .of rfl fun a w S st=>by
 obtain⟨hl0,rfl⟩:=JT hy
 subst hf
 subst hn
 have h1:a.eval x=bc l cap xs.length:=hx S a st.facts
 have hr:(execOp a.eval ⟨some d,.call ⟨.value (.func (ρ.f 189)),#[x],ats⟩,ty,pos,after,none⟩).run E.P w= .ok (.enter (ρ.f 189) #[bc l cap xs.length]) w:=by
  have e0:a.eval (.func (ρ.f 189))= .func (.func (ρ.f 189)) #[] #[]:=rfl
  simp [execOp,resolve,e0,h1,Deferred.ofValue,invoke,eU hc]
 refine⟨fun c h=>(by cases h),?_⟩
 rw [hr]
 refine(PR L hl0 st.sat st.own.1.1).mono fun e w' ⟨he,hext,hsat,hp⟩=>⟨_,he,?_⟩
 have hfp: ∀g∈O,∀b,g.fp b→ ¬(l=some b):=fun g hg b hb hl=>st.own.2.1 g hg b hl hb
 refine k (B7 xs) _ _ S ⟨st.ext.step hext (fun c hc=>st.own.1.2 c hc),hsat,⟨⟨hp,st.own.1.2⟩,st.own.2.1,st.own.2.2.ext hext hfp⟩,?_⟩;exact(st.facts.mono hext.keep).put hd trivial
end
end Go.Proofs.YtfhhakidodmdfaaGreatDoor

