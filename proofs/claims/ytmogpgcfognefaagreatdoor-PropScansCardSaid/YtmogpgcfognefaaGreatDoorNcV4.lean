/- cd of this claim: W45, W46, W47, W52, W53, W56, W57, W58, W59, W44, W55, W15, W29, W54. -/
import Derived.Test.YtmogpgcfognefaaGreatDoorNcV3
import Derived.OpenShut
import Derived.LaidMore
import Derived.Test.YtmogpgcfognefaaGreatDoorNcV2
import Derived.Laws.Externs
import Derived.WideKeyRuns
import Derived.Shelf.SlSortCmp.NoneTotal
import Derived.Shelf.Slices.In.SortNone
import Derived.Test.YtmogpgcfognefaaGreatDoorNcV1
import Derived.Shelf.Unicode.CaseTo
import Derived.Shelf.Unicode.DecodeSlow
set_option linter.all false
namespace Go.Proofs.YtmogpgcfognefaaGreatDoor
open Go Go.ChangeShapes Go.WideShapes Go.ChangeAt Go.RowKit

variable{Ds:List (DataW Unit)}{P:Program}{T:TypeId}{W:World}{agg:Bool}{c:Nat}{cells:List Value}{d:Nat}{e:TypeId}{α:Type}{g:Option (Nat×Bool)}{hi:Int}{i j:Nat}{k:IntKind}{l:Option Nat}{n p:Nat}{t:Ty}{xs:List α}
section
variable{held:Bool}
def My(P:Program)(W:World)(held:Bool)(t:TypeId)(D:DataW Unit)(cells:List Value):Prop:=
 P.cellsOf t=cells.length∧ ∀fuel cs x,DataW.trod (fun _=>()) P W 0 (fun _=>true) held fuel t cs=some x→x.1=D→cs=cells
theorem Bc{t:TypeId}{n:Int}(h:P.underlying t=some (.int k))(hc:P.cellsOf t=1):My P W held t (.lit (.int k n)) [.int k n]:=⟨hc,fun fuel cs x hx hD=>by
 obtain⟨m,h1,h2,_⟩:=DataW.trod_int h hx
 subst h2
 simp only [DataW.lit.injEq,Lit.int.injEq,true_and]at hD
 rw [h1,hD]⟩
theorem dE{t:TypeId}{s:List UInt8}(h:P.underlying t=some .string)(hc:P.cellsOf t=1):My P W held t (.lit (.string s)) [.string ⟨s.toArray⟩]:=⟨hc,fun fuel cs x hx hD=>by
 obtain⟨m,h1,h2,_⟩:=DataW.trod_string h hx
 subst h2
 simp only [DataW.lit.injEq,Lit.string.injEq]at hD
 subst hD
 rw [h1]⟩
def FC(P:Program)(W:World)(held:Bool)(off:Nat)(l:List (TypeId×Nat))(Ds:List (DataW Unit))(cells:List Value):Prop:=
 ∀(n:Nat) (cs:List Value),cs.length=off+cells.length→(∀(i:Nat) f,l[i]? =some f→ ∃x,DataW.trod (fun _=>()) P W 0 (fun _=>true) held n f.1 ((cs.drop f.2).take (P.cellsOf f.1))=some x∧Ds[i]? =some x.1)→cs.drop off=cells
theorem yK{off:Nat}:FC P W held off [] [] []:=fun n cs hl _=>t7 (by simp at hl;omega)
theorem c9{off off' :Nat}{t:TypeId}{l:List (TypeId×Nat)}{D:DataW Unit}{c:List Value}(h:My P W held t D c)(ho:off' =off+c.length)(k:FC P W held off' l Ds cells):FC P W held off ((t,off)::l) (D::Ds) (c++cells):=fun n cs hl hx=>by
 obtain⟨x,h1,h2⟩:=hx 0 (t,off) rfl
 simp only [Fa,Option.some.injEq]at h2
 have h3:=h.2 n _ x h1 h2.symm
 have h4:=k n cs (by rw [hl,ho,kh];omega) fun i f hf=>by simpa using hx (i+1) f (by simpa using hf)
 have e:cs.drop off=(cs.drop off).take (P.cellsOf t)++cs.drop off' :=by
  rw [ho,←h.1,←rf,qh]
 rw [e,h4]
 exact congrArg (· ++cells) h3
theorem tq{t:TypeId}{l:List (TypeId×Nat)}(ht:(P.underlying t).map (fun d=>match d with| .struct l=>(true,l.toList.map fun f=>(f.type,f.offset))|_=>(false,[]))=some (true,l))(hc:P.cellsOf t=cells.length)(hf:FC P W held 0 l Ds cells):My P W held t (.agg Ds) cells:=⟨hc,fun fuel cs x hx hD=>by
 obtain⟨fs,h1,h2⟩: ∃fs,P.underlying t=some (.struct fs)∧fs.toList.map (fun f=>(f.type,f.offset))=l:=by
  cases hu:P.underlying t with
  |none=>rw [hu]at ht;cases ht
  |some d=>
   rw [hu]at ht
   cases d<;>simp at ht
   exact⟨_,rfl,ht⟩
 obtain⟨xs,n,rfl,h3,h4,h5,h6⟩:=DataW.trod_struct h1 hx
 rw [h3]at hD
 simp only [DataW.agg.injEq]at hD
 have:=hf n cs (by rw [h4,hc];omega) fun i f hi=>by
  rw [←h2,xo]at hi
  obtain⟨f0,hf0,rfl⟩:=Option.map_eq_some_iff.1 hi
  have h7:=h6 i f0 (by simpa using hf0)
  have hlt:i<xs.length:=by
   have:=(lT.1 hf0).1
   rw [h5];simpa using this
  rw [nK hlt]at h7
  exact⟨xs[i],h7,by rw [←hD];simp [hlt]⟩
 rwa [pu]at this⟩
theorem Fg{t:TypeId}{m:Nat}(ht:P.underlying t=some (.array m e))(hc:P.cellsOf t=cells.length)(hf:FC P W held 0 ((List.range m).map fun i=>(e,i*P.cellsOf e)) Ds cells):My P W held t (.agg Ds) cells:=⟨hc,fun fuel cs x hx hD=>by
 obtain⟨xs,n,rfl,h3,h4,h5,h6⟩:=DataW.trod_array ht hx
 rw [h3]at hD
 simp only [DataW.agg.injEq]at hD
 have:=hf n cs (by rw [h4,hc];omega) fun i f hi=>by
  rw [xo]at hi
  obtain⟨j,hj,rfl⟩:=Option.map_eq_some_iff.1 hi
  obtain⟨hlt,hj2⟩:=lT.1 hj
  simp at hlt hj2
  subst hj2
  have h7:=h6 i hlt
  have hlt' :i<xs.length:=by rw [h5];exact hlt
  rw [nK hlt']at h7
  exact⟨xs[i],h7,by rw [←hD];simp [hlt']⟩
 rwa [pu]at this⟩
theorem CY: ∀{L:List (String×DataW Unit)} {ps:List MemPlace},DataW.LaidVars P W L ps→ ∀n d,(n,d)∈L→ ∃g t cs fuel p,P.globalNamed n=some g∧(P.globals[g]?).map (·.type)=some t∧W.var? P n=some cs∧DataW.trod (fun _=>()) P W 0 (fun _=>true) false fuel t cs.toList=some (d,p)
 |(_,_)::_,_,⟨g,t,cs,fuel,p,_,h1,h2,h3,h4,_,_⟩,_,_,.head _=>⟨g,t,cs,fuel,p,h1,h2,h3,h4⟩
 |(_,_)::_,_,⟨_,_,_,_,_,_,_,_,_,_,h,_⟩,n,d,.tail _ hm=>CY h n d hm
theorem uH{L:List (String×DataW Unit)}(h:laidMet P L W){n:String}{d:DataW Unit}(hm:(n,d)∈L){g:Nat}{t:TypeId}(hg:P.globalNamed n=some g)(ht:(P.globals[g]?).map (·.type)=some t)(hc:My P W false t d cells):
  ∃c T fr,W.heap[g]? =some (.cells c T fr)∧c.toList.take cells.length=cells:=by
 obtain⟨ps,hL,_,_⟩:=h
 obtain⟨g',t',cs,fuel,p,h1,h2,h3,h4⟩:=CY hL n d hm
 obtain rfl:=kD (hg.symm.trans h1)
 obtain rfl:=kD (ht.symm.trans h2)
 have h5:=hc.2 fuel _ _ h4 rfl
 unfold World.var? at h3
 rw [hg]at h3
 simp only [ce]at h3
 split at h3
 ·rename_i c T fr hb
  cases h3
  exact⟨_,_,_,hb,by rw [h5,AX]⟩
 ·cases h3
end

variable{S:SH}{r:Rp α}
theorem CK{α:Type}{r:Rp α}(hfree: ∀{S S' :SH} {cs:List Value} {x:α},r.rc S cs x→r.rc S' cs x){S S' :SH}: ∀{xs:List α} {cs:List Value},np r S cs xs→np r S' cs xs
 |[],_,h=>h
 |_::_,_,h=>by
  obtain⟨ds,es,h1,h2,h3⟩:=h
  exact⟨ds,es,h1,hfree h2,CK hfree h3⟩
variable{S1:SH}{b cap:Nat}{mm:Bool}{w:World}
theorem Rs(h:u0 mm r T l cap xs w S)(hs:fM w S): ∃S1,iE S S1∧fM w S1∧(tD (dR r) xs).p S1 (an l cap xs.length):=by
 cases mm with
 |true=>exact⟨S,SH.le_refl _,hs,jH h⟩
 |false=>
  obtain⟨cells,h1,h2,h3⟩:=h
  cases l with
  |none=>exact⟨S,SH.le_refl _,hs,jH (T:=T) ⟨cells,h1,h2,fun b hb=>(by cases hb)⟩⟩
  |some b=>
   obtain⟨cur,g1,g2,g3,g4,g5⟩:=h1
   have hoo:zh (.cells cells.toArray T (0,0)) (.cells cur T (0,0)):=by
    refine⟨cur.toList.drop (xs.length*r.sz),?_⟩
    congr 1
    apply Array.ext'
    rw [←g5,qh]
   have hn:S b=none:=h3 b rfl
   have hle:iE S (S.set b (.cells cells.toArray T (0,0))):=p8 fun q hq=>(by rw [hn]at hq;cases hq)
   have hsat:fM w (S.set b (.cells cells.toArray T (0,0))):=hs.set g1 hoo fun q hq=>by rw [hn]at hq;cases hq
   refine⟨_,hle,hsat,jH (T:=T) ⟨cells,⟨cur,g1,g2,g3,g4,g5⟩,nm hle h2,fun b' hb' =>?_⟩⟩
   have hb2:b=b' :=kD hb'
   subst hb2
   exact jp _ _ _
variable{G:iL}{N:Fr}{a:Act}{ts:List Ty}
section
theorem ni{v:Value}{vs:List Value}(h:t.p S1 v)(k:qT S1 ts vs):qT S1 (t::ts) (v::vs):=⟨h,k⟩
theorem Ff{G:iL}{x:Operand}(h:aw N G x t)(hf:cd N S a G)(hle:iE S S1):t.p S1 (a.eval x):=t.mono hle (h S a hf)
theorem Bf{b:Bool}(S S' :SH)(v:Value)(h:(tD rB b).p S v):(tD rB b).p S' v:=fg.2 (fg.1 h)
end
variable{enc:α→Value}
section
variable{H:Type}{enc:TypeId×Value→H}
end

variable{y:Operand}
section
theorem hH{y:α}{v:Value}{x:Operand}(hag:r.agg=true)(hr: ∀S,r.rc S [v] y)(h:aw N G x (tV (.agg #[v]))):aw N G x (tD r y):=fun S a hf=>⟨[v],by rw [Rp.val,c8 hag];exact h S a hf,hr S⟩
end

section
variable{N:Nat}{w0:World}{S0:SH}{fn:Func}{O1:List OE}{ι:Type}{t:ι→Ty}{O2:ι→List OE}
end
section
variable{c:Code}
end


theorem J{α:Sort _}{a:α}:a=a:=rfl
theorem be:True:=trivial
abbrev bQ(x:Int):Ty:=tD (rI .i64) x
abbrev gu(x:Bool):Ty:=tD rB x
abbrev gR{α:Type}(l:List α):Ty:=tD (rI .i64) (l.length:Int)
abbrev gr:Rp (List Int):=dR (rI .i64)
abbrev kC(l:List Int):Ty:=tD (dR (rI .i64)) l
abbrev d6{α:Type}(r:Rp α)(l:List α):Ty:=tD (dR r) l
abbrev nJ{α:Type}(l:Option Nat)(c:Nat)(xs:List α):Ty:=tV (an l c xs.length)
theorem aX: ∀{G' G:iL},G'.map (fun p=>look G p.1)=G'.map (fun p=>some p.2)→D1 G' G
 |[],_,_=>trivial
 |(_,_)::_,_,h=>⟨(List.cons.inj h).1,aX (List.cons.inj h).2⟩

variable{E:En}{O:List OE}{U:TypeId}{after:Array Edge}{bytes:Nat}{dst:Option Tmp}{o:Operand}{pos:String}{sz:Nat}{ty:TypeId}{z:List Value}{β:Type}
section
theorem cz{x:Nat}(h:look G x=some t):bL E O G ⟨dst,.move (.tmp x),ty,pos,after,g⟩ t:=bg (ht h)
theorem xx{x:Nat}(h:look G x=some t):bL E O G ⟨dst,.assign (.tmp x),ty,pos,after,g⟩ t:=a8 (ht h)
theorem dA{n:Int}:bL E O G ⟨dst,.assign (.const (.int k n)),ty,pos,after,g⟩ (tD (rI k) n):=a8 hI
theorem eL{b:Bool}:bL E O G ⟨dst,.assign (.const (.bool b)),ty,pos,after,g⟩ (tD rB b):=a8 hB
theorem bw{x:α}(ti:TI E.P U sz bytes agg z)(hp:look G p=some (bp r x))(hs:(r.sz,r.agg)=(sz,agg)):
  bL E O G ⟨dst,.load U (.tmp p),ty,pos,after,g⟩ (tD r x):=aL ti (Prod.mk.inj hs).1 (Prod.mk.inj hs).2 (ht hp)
theorem bY{q:Rp β}{get:α→β}{x:α}{off:Nat}(hf:bM E.P T i=some (off,sz))(hq:jl r off q get)(hp:look G p=some (bp r x))(h0:(!(Nat.beq sz 0)&&Nat.ble (off+q.sz) r.sz)=true):bL E O G ⟨dst,.fieldAddr T (.tmp p) i,ty,pos,after,g⟩ (bp q (get x)):=
 cI hf (by cases h:Nat.beq sz 0<;>simp [h]at h0 ⊢) hq (by revert h0;cases Nat.ble (off+q.sz) r.sz<;>simp) (ht hp)
theorem gJ{x:Nat}{t:TypeId}(hu:E.P.underlying t=some (.slice e))(hx:look G x=some (tD (dR r) xs)):
  bL E O G ⟨dst,.call ⟨.builtin .len,#[.tmp x],#[t]⟩,ty,pos,after,g⟩ (tD (rI .i64) (xs.length:Int)):=bR hu (ht hx)
theorem lg{x:Nat}(hi:ts[i]? =some t)(hx:look G x=some (tT ts)):bL E O G ⟨dst,.extract (.tmp x) i,ty,pos,after,g⟩ t:=yl hi (ht hx)
theorem kZ{v:α}{x:Nat}(hx:look G x=some (tD r v)):bL E O G ⟨dst,.box T (.tmp x),ty,pos,after,g⟩ (bp r v):=Es (ht hx)
theorem ki{x:Nat}{b q:Bool}(hc:look G c=some (tD rB b))(hx:look G x=some (nA b (tD rB q))):bL E O G ⟨dst,.pick (.tmp c) (.tmp x) (.const (.bool false)),ty,pos,after,g⟩ (tD rB (b&&q)):=lv (ht hc) (fun hb=>aI hx hb)
theorem oQ{x:Nat}{b q:Bool}(hc:look G c=some (tD rB b))(hx:look G x=some (nA (!b) (tD rB q))):bL E O G ⟨dst,.pick (.tmp c) (.const (.bool true)) (.tmp x),ty,pos,after,g⟩ (tD rB (b||q)):=jT (ht hc) (fun hb=>aI hx (mz hb))
variable{xt yt:TypeId}{x y:Nat}{m n:Int}
theorem eD(hx:look G x=some (tD (rI k) m))(hy:look G y=some (tD (rI k) n)):bL E O G ⟨dst,.binOp .lss xt (.tmp x) (.tmp y) yt,ty,pos,after,g⟩ (tD rB (decide (m<n))):=ep (ht hx) (ht hy)
theorem jk{j:IntKind}(hx:look G x=some (tD (rI j) m)):bL E O G ⟨dst,.binOp .eql xt (.tmp x) (.const (.int j n)) yt,ty,pos,after,g⟩ (tD rB (m==n)):=bD (ht hx) hI
theorem qZ{j:IntKind}(hx:look G x=some (tD (rI j) m)):bL E O G ⟨dst,.binOp .neq xt (.tmp x) (.const (.int j n)) yt,ty,pos,after,g⟩ (tD rB (m !=n)):=cZ (ht hx) hI
theorem im{y:α}{x ix:Nat}{t:TypeId}{k:IntKind}{i:Int}(hu:E.P.underlying t=some (.slice e))(ti:TI E.P e sz bytes agg z)(hsz:r.sz=sz)(hx:look G x=some (tD (dR r) xs))(hi:look G ix=some (tD (rI k) i))(hy:ea xs i=some y):
  bL E O G ⟨dst,.indexAddr t (.tmp x) (.tmp ix),ty,pos,after,g⟩ (bp r y):=b9 hu ti hsz (ht hx) (ht hi) hy
theorem jN{x:Nat}{xt yt:TypeId}(hi:i<9223372036854775807)(hx:look G x=some (tD (rI .i64) (i:Int))):
  bL E O G ⟨dst,.binOp .add xt (.tmp x) (.const (.int .i64 1)) yt,ty,pos,after,g⟩ (tD (rI .i64) ((i+1:Nat):Int)):=uy hi (ht hx) hI
theorem gq{off o:Nat}(n:Nat)(hf:bM E.P T i=some (off,sz))(h0:Nat.beq sz 0=false)(hp:look G p=some (tV (aF b o)))(he:o+off=n):bL E O G ⟨dst,.fieldAddr T (.tmp p) i,ty,pos,after,g⟩ (tV (aF b n)):=bz (n:=n) hf h0 (ht hp) he
end
variable{Q:Exit→Act→World→Prop}{gs:Nat}{op:Op}{ops:Array Oper}
section
variable{l:List Oper}
theorem zo(hd:Nat.blt d E.N.n=true)(h:bL E O G ⟨some d,op,ty,pos,after,none⟩ t)(k:RG E ops Q l O ((d,t)::G)):
  RG E ops Q (⟨some d,op,ty,pos,after,none⟩::l) O G:=Jm h hd k
def Md(n d:Nat)(r:Option Ty):Option Ty:=if Nat.blt d n then r else none
theorem iC{r:Option Ty}(h:Md n d r=some t):Nat.blt d n=true∧r=some t:=by
 unfold Md at h;split at h
 case isTrue h1=>exact⟨h1,h⟩
 case isFalse=>cases h
theorem ax{x:Nat}(h:Md E.N.n d (look G x)=some t)(k:RG E ops Q l O ((d,t)::G)):
  RG E ops Q (⟨some d,.move (.tmp x),ty,pos,after,none⟩::l) O G:=Jm (bg (ht (iC h).2)) (iC h).1 k
theorem bo{x:Nat}(h:Md E.N.n d (look G x)=some t)(k:RG E ops Q l O ((d,t)::G)):
  RG E ops Q (⟨some d,.assign (.tmp x),ty,pos,after,none⟩::l) O G:=Jm (a8 (ht (iC h).2)) (iC h).1 k
theorem ap{y:Code}(h:CG E Q y O G):RG E ops (Exit.then (y.wpIn (fw E.r) 0 E.P Q) Q) [] O G:=aH (am h)
theorem au{id:Nat}{l:List Oper}{y:Code}(h:RG E l.toArray (Exit.then (y.wpIn (fw E.r) 0 E.P Q) Q) l O G):CG E Q (.seq (.region id l.toArray false) y) O G:=ae (ai h)
theorem dh{β:Type _}{X Y:Option β}{r:β}{x y:Code}{b:Bool}(h:(if b=true then X else Y)=some r)(hb:look G c=some (tD rB b))(hx:X=some r→CG E Q x O G)(hy:Y=some r→CG E Q y O G):CG E Q (.cond (.tmp c) x y) O G:=
 ne (ht hb) (fun hc=>hx (ct h hc)) (fun hc=>hy (cf h hc))
theorem dz{y:Code}(h:CG E Q y O G):CG E (Exit.then (y.wpIn (fw E.r) 0 E.P Q) Q) .skip O G:=bt (am h)
theorem bC{b:Bool}(hj:(ops[j]?).bind (·.dst)=some gs)(hg:Md E.N.n gs (Md E.N.n d (look G gs))=some (tD rB b))(h:b=true→bL E O G ⟨some d,op,ty,pos,after,some (j,true)⟩ t)(k:RG E ops Q l O ((d,nA b t)::G)):RG E ops Q (⟨some d,op,ty,pos,after,some (j,true)⟩::l) O G:=LV hj (iC hg).1 (iC (iC hg).2).2 (iC (iC hg).2).1 h k
theorem cw{b:Bool}(hj:(ops[j]?).bind (·.dst)=some gs)(hg:Md E.N.n gs (Md E.N.n d (look G gs))=some (tD rB b))(h:(!b)=true→bL E O G ⟨some d,op,ty,pos,after,some (j,false)⟩ t)(k:RG E ops Q l O ((d,nA (!b) t)::G)):RG E ops Q (⟨some d,op,ty,pos,after,some (j,false)⟩::l) O G:=LW hj (iC hg).1 (iC (iC hg).2).2 (iC (iC hg).2).1 h k
end
theorem bF{α:Type _}{β:Type _}{x:Option α}{k:α→Option β}{r:β}{P:Prop}(h:x.bind k=some r)(f: ∀y,x=some y→k y=some r→P):P:=by
 obtain⟨y,h1,h2⟩:=bs h;exact f y h1 h2
variable{u u1:Ty}
section
variable{l:List Oper}{o:Oper}
theorem tS{a b c:Bool}(h:(a&&b&&c)=true):a=true∧b=true∧c=true:=by revert h;cases a<;>cases b<;>cases c<;>simp
theorem Ok{x:Option α}(h:x.isNone=true):x=none:=by cases x;rfl;cases h
theorem zd0(h:ts[i]? =some t)(hb:(dq i o&&o.guard.isNone)=true)(k:bL E O [] o t): ∃(needs:List Nd) (t:Ty),ts[i]? =some t∧nI G ts needs∧(needs.all (lq l o i))=true∧dq i o=true∧bW E O l.toArray (gw needs) o t:=
 ⟨[],t,h,trivial,rfl,(Cc.1 hb).1,ah (Ok (Cc.1 hb).2) k⟩
theorem gF(a:Nat)(h:ts[i]? =some t)(hu:qX G ts ⟨a,u,none⟩)(hb:([(⟨a,u,none⟩:Nd)].all (lq l o i)&&dq i o&&o.guard.isNone)=true)(k:bL E O [(a,u)] o t): ∃(needs:List Nd) (t:Ty),ts[i]? =some t∧nI G ts needs∧(needs.all (lq l o i))=true∧dq i o=true∧bW E O l.toArray (gw needs) o t:=
 ⟨[(⟨a,u,none⟩:Nd)],t,h,⟨hu,trivial⟩,(tS hb).1,(tS hb).2.1,ah (Ok (tS hb).2.2) k⟩
theorem cL(a:Nat)(j:Nat)(h:ts[i]? =some t)(hu:qX G ts ⟨a,u,(some j)⟩)(hb:([(⟨a,u,(some j)⟩:Nd)].all (lq l o i)&&dq i o&&o.guard.isNone)=true)(k:bL E O [(a,u)] o t): ∃(needs:List Nd) (t:Ty),ts[i]? =some t∧nI G ts needs∧(needs.all (lq l o i))=true∧dq i o=true∧bW E O l.toArray (gw needs) o t:=
 ⟨[(⟨a,u,(some j)⟩:Nd)],t,h,⟨hu,trivial⟩,(tS hb).1,(tS hb).2.1,ah (Ok (tS hb).2.2) k⟩
theorem JM(a:Nat)(a1:Nat)(j1:Nat)(h:ts[i]? =some t)(hu:qX G ts ⟨a,u,none⟩)(hu1:qX G ts ⟨a1,u1,(some j1)⟩)(hb:([(⟨a,u,none⟩:Nd),⟨a1,u1,(some j1)⟩].all (lq l o i)&&dq i o&&o.guard.isNone)=true)(k:bL E O [(a,u),(a1,u1)] o t): ∃(needs:List Nd) (t:Ty),ts[i]? =some t∧nI G ts needs∧(needs.all (lq l o i))=true∧dq i o=true∧bW E O l.toArray (gw needs) o t:=
 ⟨[(⟨a,u,none⟩:Nd),⟨a1,u1,(some j1)⟩],t,h,⟨hu,hu1,trivial⟩,(tS hb).1,(tS hb).2.1,ah (Ok (tS hb).2.2) k⟩
theorem mH(a:Nat)(a1:Nat)(j1:Nat)(h:ts[i]? =some t)(hu:qX G ts ⟨a,u,none⟩)(hu1:qX G ts ⟨a1,u1,(some j1)⟩)(hb:([(⟨a,u,none⟩:Nd),⟨a1,u1,(some j1)⟩].all (lq l o i)&&dq i o)=true)(k:bW E O l.toArray [(a,u),(a1,u1)] o t): ∃(needs:List Nd) (t:Ty),ts[i]? =some t∧nI G ts needs∧(needs.all (lq l o i))=true∧dq i o=true∧bW E O l.toArray (gw needs) o t:=
 ⟨[(⟨a,u,none⟩:Nd),⟨a1,u1,(some j1)⟩],t,h,⟨hu,hu1,trivial⟩,(Cc.1 hb).1,(Cc.1 hb).2,k⟩
theorem eu(a:Nat)(j:Nat)(a1:Nat)(j1:Nat)(h:ts[i]? =some t)(hu:qX G ts ⟨a,u,(some j)⟩)(hu1:qX G ts ⟨a1,u1,(some j1)⟩)(hb:([(⟨a,u,(some j)⟩:Nd),⟨a1,u1,(some j1)⟩].all (lq l o i)&&dq i o&&o.guard.isNone)=true)(k:bL E O [(a,u),(a1,u1)] o t): ∃(needs:List Nd) (t:Ty),ts[i]? =some t∧nI G ts needs∧(needs.all (lq l o i))=true∧dq i o=true∧bW E O l.toArray (gw needs) o t:=
 ⟨[(⟨a,u,(some j)⟩:Nd),⟨a1,u1,(some j1)⟩],t,h,⟨hu,hu1,trivial⟩,(tS hb).1,(tS hb).2.1,ah (Ok (tS hb).2.2) k⟩
theorem fj(a:Nat)(j:Nat)(a1:Nat)(j1:Nat)(h:ts[i]? =some t)(hu:qX G ts ⟨a,u,(some j)⟩)(hu1:qX G ts ⟨a1,u1,(some j1)⟩)(hb:([(⟨a,u,(some j)⟩:Nd),⟨a1,u1,(some j1)⟩].all (lq l o i)&&dq i o)=true)(k:bW E O l.toArray [(a,u),(a1,u1)] o t): ∃(needs:List Nd) (t:Ty),ts[i]? =some t∧nI G ts needs∧(needs.all (lq l o i))=true∧dq i o=true∧bW E O l.toArray (gw needs) o t:=
 ⟨[(⟨a,u,(some j)⟩:Nd),⟨a1,u1,(some j1)⟩],t,h,⟨hu,hu1,trivial⟩,(Cc.1 hb).1,(Cc.1 hb).2,k⟩
theorem Ou(a:Nat)(j:Nat)(a1:Nat)(j1:Nat)(a2:Nat)(j2:Nat){u2:Ty}(h:ts[i]? =some t)(hu:qX G ts ⟨a,u,(some j)⟩)(hu1:qX G ts ⟨a1,u1,(some j1)⟩)(hu2:qX G ts ⟨a2,u2,(some j2)⟩)(hb:([(⟨a,u,(some j)⟩:Nd),⟨a1,u1,(some j1)⟩,⟨a2,u2,(some j2)⟩].all (lq l o i)&&dq i o&&o.guard.isNone)=true)(k:bL E O [(a,u),(a1,u1),(a2,u2)] o t): ∃(needs:List Nd) (t:Ty),ts[i]? =some t∧nI G ts needs∧(needs.all (lq l o i))=true∧dq i o=true∧bW E O l.toArray (gw needs) o t:=
 ⟨[(⟨a,u,(some j)⟩:Nd),⟨a1,u1,(some j1)⟩,⟨a2,u2,(some j2)⟩],t,h,⟨hu,hu1,hu2,trivial⟩,(tS hb).1,(tS hb).2.1,ah (Ok (tS hb).2.2) k⟩
theorem pL(a:Nat)(j:Nat)(a1:Nat)(j1:Nat)(a2:Nat)(j2:Nat){u2:Ty}(h:ts[i]? =some t)(hu:qX G ts ⟨a,u,(some j)⟩)(hu1:qX G ts ⟨a1,u1,(some j1)⟩)(hu2:qX G ts ⟨a2,u2,(some j2)⟩)(hb:([(⟨a,u,(some j)⟩:Nd),⟨a1,u1,(some j1)⟩,⟨a2,u2,(some j2)⟩].all (lq l o i)&&dq i o)=true)(k:bW E O l.toArray [(a,u),(a1,u1),(a2,u2)] o t): ∃(needs:List Nd) (t:Ty),ts[i]? =some t∧nI G ts needs∧(needs.all (lq l o i))=true∧dq i o=true∧bW E O l.toArray (gw needs) o t:=
 ⟨[(⟨a,u,(some j)⟩:Nd),⟨a1,u1,(some j1)⟩,⟨a2,u2,(some j2)⟩],t,h,⟨hu,hu1,hu2,trivial⟩,(Cc.1 hb).1,(Cc.1 hb).2,k⟩
end

def Rc{α:Type}(r:Rp α):Rp α where
 sz:=1
 agg:=false
 rc:=fun S cs x=> ∃v,cs=[v]∧(bp r x).p S v
 mono:=fun h ⟨v,e,k⟩=>⟨v,e,(bp r _).mono h k⟩
 len:=fun⟨_,e,_⟩=>by rw [e];rfl
 one:=fun⟨v,e,b,off,c,U,fr,h,_⟩ c' hc=>by rw [e]at hc;simp at hc;subst hc;rw [h];rfl
 sc:=fun _=>rfl
theorem JT{x:α}{v:Value}:(tD (Rc r) x).p S v↔(bp r x).p S v:=by
 constructor
 ·rintro⟨cs,rfl,w,rfl,h⟩;exact h
 ·intro h;exact⟨[v],rfl,v,rfl,h⟩
def HN{α:Type}(r:Rp α):Rp (Option α) where
 sz:=1
 agg:=false
 rc:=fun S cs o=> ∃v,cs=[v]∧match o with|none=>v= .pointer none|some x=>(bp r x).p S v
 mono:=fun{S S' cs o} h ⟨v,e,k⟩=>⟨v,e,by cases o with|none=>exact k|some x=>exact(bp r x).mono h k⟩
 len:=fun⟨_,e,_⟩=>by rw [e];rfl
 one:=fun{S cs o} ⟨v,e,k⟩ c' hc=>by
  rw [e]at hc;simp at hc;subst hc
  cases o with
  |none=>rw [show c' = .pointer none from k];rfl
  |some x=>obtain⟨b,off,c,U,fr,h,_⟩:=k;rw [h];rfl
 sc:=fun _=>rfl
theorem Hg:aw N G (.const (.pointer none)) (tD (HN r) none):=fun _ _ _=>⟨[.pointer none],rfl,_,rfl,rfl⟩
theorem ue{x:α}{v:Value}:(tD (HN r) (some x)).p S v↔(bp r x).p S v:=by
 constructor
 ·rintro⟨cs,rfl,w,rfl,h⟩;exact h
 ·intro h;exact⟨[v],rfl,v,rfl,h⟩
theorem Rv{x:α}{u:Option α}(h:aw N G o (tD (HN r) u))(e:u=some x):aw N G o (bp r x):=fun S a hf=>by
 subst e;exact ue.1 (h S a hf)

theorem OV{rd:Rp β}{x:α}{y:β}(h:(bx r T b x).p w S)(hs:fM w S)(cv: ∀cs,r.rc S cs x→rd.rc S cs y): ∃S1,iE S S1∧fM w S1∧(bp rd y).p S1 (aF b 0):=by
 obtain⟨hn,c,h2,h3⟩:=h
 have hle:iE S (S.set b (.cells c T (0,0))):=p8 fun q hq=>(by rw [hn]at hq;cases hq)
 have hsat:fM w (S.set b (.cells c T (0,0))):=hs.set h2 (oE _) fun q hq=>by rw [hn]at hq;cases hq
 have h4:=cv _ h3
 have hl:c.toList.length=rd.sz:=rd.len h4
 refine⟨_,hle,hsat,b,0,c,T,(0,0),rfl,jp _ _ _,?_⟩
 rw [pu,tg (by omega)]
 exact rd.mono hle h4
variable{el:TypeId}{ys:List α}{γ:Type}
section
theorem ym{f:FuncId}{xs:List Operand}{ats:Array TypeId}{rd:Rp β}{x:α}{y:β}(hm:bx r T b x∈O)(hc:aj E.P f=true)(hs:aW E.P f ts t)(cv: ∀w S cs,db E.base E.B w S O→r.rc S cs x→rd.rc S cs y)(hx: ∀(S S1:SH) (a:Act),cd E.N S a G→iE S S1→(bp rd y).p S1 (aF b 0)→qT S1 ts (xs.map a.eval))(htf: ∀(S S' :SH) (v:Value),t.p S v→t.p S' v):
  bL E O G ⟨dst,.call ⟨.value (.func f),xs.toArray,ats⟩,ty,pos,after,g⟩ t:=fun a w S hS hO hF=>by
 have hr:(execOp a.eval ⟨dst,.call ⟨.value (.func f),xs.toArray,ats⟩,ty,pos,after,g⟩).run E.P w= .ok (.enter f (xs.map a.eval).toArray) w:=by
  simp [execOp,resolve,Act.eval,Deferred.ofValue,invoke,em hc]
 refine⟨fun c h=>(by cases h),?_⟩
 rw [hr]
 obtain⟨S1,k1,k2,k3⟩:=OV (db.mem hO _ hm).1 hS (fun cs h=>cv w S cs hO h)
 exact(hs w S1 _ k2 (hx S S1 a hF k1 k3)).mono fun e w' ⟨v,S',he,h1,h2,h3⟩=>⟨v,he,v,S,rfl,
  ⟨h1.os,h1.tape,h1.output,h1.drawn,h1.size,h1.heap,SH.le_refl _,fun _ _ _=>rfl⟩,hS.same fun b o k=>h1.heap b (hS.lt k) (fun hb=>hb),htf S' S v h3⟩
theorem Fk{G:iL}{x:α}(h:aw N G o (tV (aF b 0)))(hf:cd N S a G)(hk:(bp r x).p S1 (aF b 0)):(bp r x).p S1 (a.eval o):=by
 rw [show a.eval o=aF b 0 from h S a hf];exact hk

def ln(t:Nat→Ty):Ty where
 p:=fun S v=> ∀b,(t b).p S v
 mono:=fun h k b=>(t b).mono h (k b)
theorem yx{t:Nat→Ty}(h: ∀b,aw N G o (t b)):aw N G o (ln t):=fun S a hf b=>h b S a hf
theorem O6{t:Nat→Ty}(b:Nat)(h:aw N G o (ln t)):aw N G o (t b):=fun S a hf=>h S a hf b

theorem om{r' :Rp γ}{q:Rp β}{hs hs' :HL}{off:Nat}{x:α}{x' :γ}{y:β}(h:pm r r' off q x y x')(hk:Oc hs off q.sz none hs')(hoff:Nat.ble (off+q.sz) r.sz=true):pm (rH r hs) (rH r' hs') off q x y x' :=fun S cs ds h1 h2=>by
 refine⟨h S cs ds h1.1 h2,fun p hp=>?_⟩
 rcases hk.all p hp with⟨e,_⟩|⟨g1,g2⟩
 ·cases e
 ·have hl:=r.len h1.1
  rw [pl (q.len h2) (by have:=mD hoff;omega) g2]
  exact h1.2 _ (n5 g1)
theorem LM{r' :Rp γ}{x:α}{x' :γ}{hs:HL}{cs:List Value}(h:(rH r hs).rc S cs x)(k:r.rc S cs x→r'.rc S cs x'):(rH r' hs).rc S cs x' :=⟨k h.1,h.2⟩

theorem Fs{q:Rp α}(hq:q.sz=1){cs:List Value}{m:Nat}(h:np q S cs xs)(hm:m≤xs.length):np q S (cs.take m) (xs.take m)∧np q S (cs.drop m) (xs.drop m):=by
 have:=lI (xs:=xs.take m) (ys:=xs.drop m) (by rw [qh];exact h)
 rwa [wy,tX hm,hq,Nat.mul_one]at this
def p7{α:Type}(xs ys:List α):List α:=ys.take xs.length++xs.drop (min ys.length xs.length)
theorem BR:(p7 xs ys).length=xs.length:=by
 unfold p7
 simp
 omega
theorem CT{p:Operand}(hu:E.P.underlying T=some (.array n el))(hs:((E.P.info? el).map (·.size)).isSome=true)(hp:aw E.N G p (tV (aF b 0))):
  bL E O G ⟨dst,.slice T p none none none,ty,pos,after,g⟩ (tV (.slice (some ⟨b,0,none⟩) n n)):= .of_pure fun a w S _ _ hf=>by
 have h1:a.eval p=aF b 0:=hp S a hf
 cases hq:E.P.info? el with
 |none=>simp [hq]at hs
 |some i=>exact⟨_,by simp [execOp,h1,aF,Instr.sliceAt,fI hu,Instr.sureAddr,Instr.sliceBounds,sizeOf,typeInfo,hq,Result.andThen];intro _;rfl,rfl⟩
end
variable{lo:Int}{rest:List Oper}
section
variable{c:Code}
theorem dY{y:α}{u:Option α}{x:Operand}(hx:aw E.N G x (tD (HN r) u))(e:u=some y):bL E O G ⟨dst,.nilCheck x,ty,pos,after,g⟩ (bp r y):=Fu (Rv hx e)
theorem St.ptAt{x:α}{k:Nat}(h:St E O G a w S)(hk:look G k=some (bp r x)):St E O ((k,tD (HN r) (some x))::G) a w S:=h.cons (ue.2 (h.facts.at_ k _ hk))
theorem LU{x:α}(k:Nat)(hk:look G k=some (bp r x))(h:RG E ops Q rest O ((k,tD (HN r) (some x))::G)):RG E ops Q rest O G:=fun a w S st=>h a w S (st.ptAt hk)
theorem L7{e:Exit}{x:α}(k:Nat)(hk:look G k=some (bp r x))(h:AT E Q e O ((k,tD (HN r) (some x))::G)):AT E Q e O G:=fun a w S st=>h a w S (st.ptAt hk)
theorem Hp{q:Rp α}{x:Operand}{dT sT:TypeId}(hq:q.sz=1)(hu:E.P.underlying dT=some (.slice el))(hs:(E.P.info? el).map (·.size)=some 1)(hx:aw E.N G x (tV (.slice (some ⟨b,0,none⟩) n n)))(hy: ∀a w S,fM w S→db E.base E.B w S (bx (jm q n) T b xs::O)→cd E.N S a G→ ∃S1,fM w S1∧(tD (dR q) ys).p S1 (a.eval y)∧ ∀cs zs,np q S1 cs zs→np q S cs (zs:List α)):
  EffOK E (bx (jm q n) T b xs::O) G ⟨some d,.call ⟨.builtin .copy,#[x,y],#[dT,sT]⟩,ty,pos,after,g⟩ (fun _=>bx (jm q n) T b (p7 xs ys)::O) (fun _=>tD (rI .i64) ((min ys.length n:Nat):Int)):=fun a w S hs0 ho hf hb=>by
 have h1:a.eval x= .slice (some ⟨b,0,none⟩) n n:=hx S a hf
 obtain⟨S1,hS1,hy1,hback⟩:=hy a w S hs0 ho hf
 obtain⟨ad,cap,h2,_,_,h3⟩:=iM.1 hy1
 obtain⟨⟨hno,cur,h5,h6,h7⟩,_⟩:=ho.1
 have hcl:cur.toList.length=n:=by rw [iA h7,hq,h6,Nat.mul_one]
 have hm:min ys.length n≤ys.length:=Nat.min_le_left _ _
 obtain⟨cs,hcs,hrun,hlen⟩: ∃cs,np q S cs (ys.take (min ys.length n))∧(Builtin.copy_ #[dT,sT] ty #[.slice (some ⟨b,0,none⟩) n n,a.eval y]).run E.P w= .ok (goInt cs.length) (w.setRow b (cs++cur.toList.drop cs.length).toArray)∧cs.length=min ys.length n:=by
  rw [h2]
  rcases h3 with rfl|⟨b',off,c,T',fr,rfl,e2,e3⟩
  ·refine⟨[],by simp [np],?_,by simp⟩
   cases hel:E.P.info? el with
   |none=>simp [hel]at hs
   |some i=>
    have hi:i.size=1:=by simpa [hel] using hs
    have hself:w.setRow b (([]:List Value)++cur.toList.drop ([]:List Value).length).toArray=w:=by simpa using setRow_self w b cur T (0,0) h5
    rw [hself]
    cases ad with
    |none=>simp [Builtin.copy_,fI hu,Builtin.lenOf,Builtin.firstCells,sizeOf,typeInfo,hel,hi,storeCells]
    |some p=>
     have hl:=run_loadCells_list (P:=E.P) w p [] (fun j v hv=>by simp at hv)
     simp only [zk]at hl
     simp [Builtin.copy_,fI hu,Builtin.lenOf,Builtin.firstCells,sizeOf,typeInfo,hel,hi,storeCells,hl]
  ·obtain⟨c',h8,h9⟩:=hS1.part e2 (iA e3)
   obtain⟨d1,d2⟩:=Fs hq e3 hm
   rw [wx,hq,Nat.mul_one,tX hm]at d1
   have hl:((c.toList.drop off).take (min ys.length n)).length=min ys.length n:=by
    rw [iA d1,hq,Nat.mul_one,wy,tX hm]
   have hcs:cur.size=n:=by simpa using hcl
   refine⟨_,hback _ _ d1,?_,hl⟩
   have:=run_copy_row (P:=E.P) w dT sT ty el b 0 n n ⟨b',off,none⟩ ys.length cap cur T ((c.toList.drop off).take (min ys.length n)) hu hs h5 hl (fun j v hv=>?_) (by rw [hl];omega) (ur d1)
   ·simpa using this
   ·have hj:j<min ys.length n:=by rw [←hl];exact(lT.1 hv).1
    have hcell:w.cell? ⟨b',off+j,none⟩=c'[off+j]? :=sH h8 _
    rw [fc]
    show w.cell? ⟨b',off+j,none⟩=_
    rw [hcell]
    have h10:((c'.toList.drop off).take (ys.length*q.sz))[j]? =((c.toList.drop off).take (ys.length*q.sz))[j]? :=by rw [h9]
    rw [vh (by rw [hq];omega),vh (by rw [hq];omega),rj,rj]at h10
    rw [vh hj,rj]at hv
    rw [←hv,←E6,h10]
 have hx' :(execOp a.eval ⟨some d,.call ⟨.builtin .copy,#[x,y],#[dT,sT]⟩,ty,pos,after,g⟩).run E.P w= .ok (.value (goInt cs.length)) (w.setRow b (cs++cur.toList.drop cs.length).toArray):=by
  simp [execOp,resolve,h1,invoke,builtin,hrun]
 refine⟨fun c h=>(by cases h),?_⟩
 rw [hx']
 have hle:min ys.length n≤xs.length:=by rw [h6];exact Nat.min_le_right _ _
 obtain⟨_,d4⟩:=Fs hq h7 hle
 have hnew:(jm q n).rc S (cs++cur.toList.drop cs.length) (p7 xs ys):=by
  refine⟨by rw [BR];exact h6,?_⟩
  unfold p7
  rw [h6,hlen]
  have e1:ys.take n=ys.take (min ys.length n):=by
   rw [List.take_eq_take_iff];omega
  rw [e1]
  exact oy hcs d4
 obtain⟨g1,g2,g3⟩:=iZ (O:=O) hs0 (w' :=w.setRow b (cs++cur.toList.drop cs.length).toArray) (bx (jm q n) T b xs) (bx (jm q n) T b (p7 xs ys)) ho (fun _=>nf) (fun _=>nf) ⟨rfl,rfl,rfl,by simp [World.setRow],fO _⟩ (fun k hk=>setRow_other w b k _ hk) ⟨hno,_,setRow_heap w b cur _ T _ h5,by simpa using hnew⟩ hno
 refine⟨_,S,sR,rfl,g1.more fun k hk=>⟨_,kU ..,hk⟩,g2,g3,?_⟩
 rw [hlen]
 exact cM.2 rfl
theorem Gv(hs:cG xs lo hi=some ys)(h:u0 mm r U l cap xs w S)(hS:fM w S): ∃S1,fM w S1∧(tD (dR r) ys).p S1 (jY r.sz l cap lo.toNat ys.length):=by
 obtain⟨S1,_,k2,hd⟩:=Rs h hS
 refine⟨S1,k2,?_⟩
 obtain⟨l',m,rfl,rfl,h7,h8,rfl⟩:=dO hs
 obtain⟨ad,c,h1,h2,h3,h4⟩:=iM.1 hd
 have hlen:((xs.take m).drop l').length=m-l' :=by simp;omega
 cases l with
 |none=>
  obtain⟨cells,g1,_⟩:=h
  have hx:xs=[]:=vi g1.1
  subst hx
  have e:((([]:List α).take m).drop l')=[]:=by simp
  rw [e]
  exact Be
 |some b=>
  have e1:Value.slice (some ⟨b,0,none⟩) xs.length cap= .slice ad xs.length c:=h1
  injection e1 with e2 _ e3
  subst e2
  subst e3
  have h5:=tw h4 h7 h8 h2
  refine iM.2 ⟨_,cap-l',?_,by omega,by omega,h5⟩
  unfold jY
  simp only [AZ,hlen,xn,fc,pt]
  split<;>rfl
theorem BO{xs ys zs:List Int}{x:Operand}{dT sT:TypeId}(hm:iK mm (rI k) U l cap zs∈bx (jm (rI k) n) T b xs::O)(hsl:cG zs lo hi=some ys)(hu:E.P.underlying dT=some (.slice el))(hs:(E.P.info? el).map (·.size)=some 1)(hx:aw E.N G x (tV (.slice (some ⟨b,0,none⟩) n n)))(hy:aw E.N G y (tV (jY 1 l cap lo.toNat ys.length))):
  EffOK E (bx (jm (rI k) n) T b xs::O) G ⟨some d,.call ⟨.builtin .copy,#[x,y],#[dT,sT]⟩,ty,pos,after,g⟩ (fun _=>bx (jm (rI k) n) T b (p7 xs ys)::O) (fun _=>tD (rI .i64) ((min ys.length n:Nat):Int)):=
 Hp rfl hu hs hx fun a w S hs0 ho hf=>by
  obtain⟨S1,h1,h2⟩:=Gv hsl (db.mem ho _ hm).1 hs0
  refine⟨S1,h1,?_,fun cs zs h=>by rw [ut h];exact(ut h)▸CK (fun h=>h) h⟩
  rw [show a.eval y=jY 1 l cap lo.toNat ys.length from hy S a hf]
  exact h2
def Ib{α:Type}(r:Rp α)(y:α)(b:Nat)(t:Ty):Ty where
 p:=fun S v=> ∀S1,iE S S1→(bp r y).p S1 (aF b 0)→t.p S1 v
 mono:=fun h k S1 h1=>k S1 (SH.le_trans h h1)
theorem JO{x:Operand}{y:α}(h:aw N G x (Ib r y b t))(hf:cd N S a G)(hle:iE S S1)(hk:(bp r y).p S1 (aF b 0)):t.p S1 (a.eval x):=h S a hf S1 hle hk
theorem Br{r:Rp γ}{z:γ}{args:α→List Ty}{res:β→Ty}{f:α→Option β}{fid:FuncId}{caps:List Operand}{cts:List Ty}(hc:aj E.P fid=true)(hcap: ∀(S S1:SH) (a:Act),cd E.N S a G→iE S S1→(bp r z).p S1 (aF b 0)→qT S1 cts (caps.map a.eval))(hs: ∀x y,f x=some y→aW E.P fid (args x++cts) (res y)):bL E O G ⟨dst,.makeFunc (.func fid) #[] caps.toArray,ty,pos,after,g⟩ (Ib r z b (eN E.P args res f)):=
 .of_pure fun a w S _ _ hf=>by
  refine⟨.func (.func fid) #[] (caps.map a.eval).toArray,by simp [execOp,Instr.makeFunc],fun S1 h1 hk=>⟨fid,_,rfl,hc,fun x y h w' S' vs hle hsat hv=>?_⟩⟩
  have hcv:=(hcap S S1 a hf h1 hk).mono hle
  simpa using hs x y h w' S' _ hsat (hv.append hcv)
theorem ET{x:Operand}{y:α}(h:aw N G x (bp (rT (tV (aF b 0))) ()))(hf:cd N S a G)(hle:iE S S1)(hk:(bp r y).p S1 (aF b 0)):(bp (Rc r) y).p S1 (a.eval x):=by
 obtain⟨b',off,c,E',fr,h1,h2,v,h3,_,h4⟩:=(bp (rT (tV (aF b 0))) ()).mono hle (h S a hf)
 have h4' :v=aF b 0:=h4
 subst h4'
 exact⟨b',off,c,E',fr,h1,h2,_,h3,hk⟩
theorem Fh(ti:TI P T sz bytes agg z):(P.info? T).map (·.size)=some sz:=by
 obtain⟨i,_,hi,hs,_⟩:=ti.get
 simp [hi,hs]
theorem JR(ti:TI P T sz bytes agg z):((P.info? T).map (·.size)).isSome=true:=by rw [Fh ti];rfl
def JY{α:Type}:Rp α where
 sz:=1
 agg:=false
 rc:=fun _ cs _=> ∃v,cs=[v]∧v.oneCell' =true
 mono:=fun _ h=>h
 len:=fun⟨v,h,_⟩=>by rw [h];rfl
 one:=fun⟨v,h,k⟩ c hc=>by rw [h]at hc;simp at hc;subst hc;exact k
 sc:=fun _=>rfl
theorem Rx{x:Operand}{u:Value}{y:α}(h:aw N G x (tV u))(ho:u.oneCell' =true):aw N G x (tD JY y):=fun S a hf=>by
 have h1:a.eval x=u:=h S a hf
 rw [h1]
 exact⟨[u],rfl,u,rfl,ho⟩
theorem Ik{c:Nat}:(an l c n).oneCell' =true:=by cases l<;>rfl
theorem E1{j:Int}{o:Oper}{post:OI→List OE}{t:OI→Ty}(h:cG xs 0 j=some ys)(k:EffOK E (cC r U l cap ys::O) G o post t):EffOK E (cC r U l cap xs::O) G o post t:=fun a w S hs ho hf hb=>by
 have h1:db E.base E.B w S (cC r U l cap ys::O):=⟨⟨F6 h ho.1.1,ho.1.2⟩,ho.2.1,ho.2.2⟩
 refine jS (fun a' w' ⟨v,S',x,g1,g2,g3,g4,g5⟩=>⟨v,S',x,g1,g2.more fun b ⟨f,hf,hb⟩=>?_,g3,g4,g5⟩) (k a w S hs h1 hf hb)
 rcases gz.1 hf with rfl|hf
 ·exact⟨_,kU ..,hb⟩
 ·exact⟨f,kR _ hf,hb⟩
theorem B7(hm:iK mm r T l cap xs∈O)(hs:cG xs lo hi=some ys)(h:(l=none→ys.length=0)∧ys.length≤maxLen→CG E Q c O G):CG E Q c O G:=fun a w S st=>by
 refine h ?_ a w S st
 obtain⟨cells,h1,_⟩:=(st.own.mem _ hm).1
 obtain⟨l',m,_,_,_,h8,rfl⟩:=dO hs
 have hlen:((xs.take m).drop l').length≤xs.length:=by simp;omega
 cases l with
 |none=>have:=h1.1;exact⟨fun _=>by omega,by omega⟩
 |some b=>obtain⟨cur,_,g2,g3,_⟩:=h1;exact⟨fun h=>(by cases h),by omega⟩
theorem N2{l:List α}{e:α}(h:xs.drop i=e::l):(i:Int)<(xs.length:Int):=by
 have:=congrArg List.length h
 simp at this
 omega
theorem zE{x ix:Operand}{y:α}{t:TypeId}{i:Int}(ht:E.P.underlying t=some (.slice e))(ti:TI E.P e sz bytes agg z)(hm:iK mm r U l cap xs∈O)(hx:aw E.N G x (tV (an l cap n)))(hi:aw E.N G ix (tD (rI k) i))(hy:ea xs i=some y)(hlt:i<(n:Int)):
  bL E O G ⟨dst,.indexAddr t x ix,ty,pos,after,g⟩ (tV (iJ l (i.toNat*sz+0))):=
 .of_pure fun a w S _ ho hf=>by
  have h1:a.eval x=an l cap n:=hx S a hf
  have h3:a.eval ix= .int k i:=cM.1 (hi S a hf)
  obtain⟨h0,hy'⟩:=fL hy
  obtain⟨b,cur,rfl,_⟩:=lZ (ho.mem _ hm).1 hy'
  refine⟨_,?_,rfl⟩
  have hc:0≤i∧i<(n:Int):=⟨h0,hlt⟩
  simp [execOp,h1,h3,an,Instr.indexAt,asIntOf,fI ht,hc,ti.sizeOf,fc,iJ,aF]
theorem Rw{b:Bool}:aw N G (.const (.bool b)) (tD rB b):=hB
theorem Dr(b:Bool){l:List Oper}(h1:b=true→RG E ops Q l O G)(h2:b=false→RG E ops Q l O G):RG E ops Q l O G:=by
 cases b with
 |true=>exact h1 rfl
 |false=>exact h2 rfl
theorem u4{d:Option Tmp}{pol b:Bool}(hj:(ops[j]?).bind (·.dst)=some gs)(hgs:Nat.blt gs E.N.n=true)(hb:look G gs=some (tD rB b))(e:b=pol)(k:RG E ops Q (⟨d,op,ty,pos,after,none⟩::rest) O G):
  RG E ops Q (⟨d,op,ty,pos,after,some (j,pol)⟩::rest) O G:=fun a w S st=>by
 have hgs' :gs<a.tmps.size:=by rw [st.facts.size];simpa [pI] using hgs
 have hw:=qj (o:=⟨d,op,ty,pos,after,some (j,pol)⟩) rfl hj hgs' (lM hb S a st.facts)
 have h1:=k a w S st
 unfold wpListIn at h1 ⊢
 rw [hw,e]
 rw [c8 (show Region.wanted ⟨d,op,ty,pos,after,none⟩ (yielded ops a.tmps)=true from rfl)]at h1
 rw [c8 (show(true&&(pol==pol))=true from by simp)]
 exact h1
theorem lD{pol b:Bool}(hj:(ops[j]?).bind (·.dst)=some gs)(hgs:Nat.blt gs E.N.n=true)(hb:look G gs=some (tD rB b))(e:b= !pol)(hd:Nat.blt d E.N.n=true)(k:RG E ops Q rest O ((d,xF)::G)):
  RG E ops Q (⟨some d,op,ty,pos,after,some (j,pol)⟩::rest) O G:=fun a w S st=>by
 have hgs' :gs<a.tmps.size:=by rw [st.facts.size];simpa [pI] using hgs
 have hw:=qj (o:=⟨some d,op,ty,pos,after,some (j,pol)⟩) rfl hj hgs' (lM hb S a st.facts)
 refine wpListIn_step fun K hK=>?_
 rw [hw,e,dg (by cases pol<;>simp)]
 exact⟨fun _ _=>trivial,hK _ _ (k _ _ S (st.step (eQ _ _ _) st.sat hd trivial))⟩
theorem vB{c x:Operand}{b:Bool}(hc:aw E.N G c (tD rB b))(e:b=true)(hx:aw E.N G x t):bL E O G ⟨dst,.pick c x y,ty,pos,after,g⟩ t:=sx hc (fun _=>hx) (fun h=>by rw [e]at h;cases h)
theorem Aj{c x:Operand}{b:Bool}(hc:aw E.N G c (tD rB b))(e:b=false)(hy:aw E.N G y t):bL E O G ⟨dst,.pick c x y,ty,pos,after,g⟩ t:=sx hc (fun h=>by rw [e]at h;cases h) (fun _=>hy)
end
theorem vt(P:Program)(fn:Func)(h' i j k:Nat)(h:fn.results= #[.tmp h',.tmp i,.tmp j,.tmp k])(tmps:Array Value)(w:World):(results fn tmps).run P w= .ok (.tuple #[tmps.getD h' undef,tmps.getD i undef,tmps.getD j undef,tmps.getD k undef]) w:=by
 simp [results,h]
theorem sK{N:Nat}{B:Nat→Prop}{w0:World}{S0:SH}{fn:Func}{m k:Nat}{s v:Ty}(hr:fn.results= #[.tmp m,.tmp i,.tmp j,.tmp k])(hm:look G m=some s)(hi:look G i=some t)(hj:look G j=some u)(hk:look G k=some v):
  AT ⟨P,⟨N,[]⟩,B,w0,S0,none⟩ (bodyPost P fn (BN ⟨P,⟨N,[]⟩,B,w0,S0,none⟩ (tT [s,t,u,v]))) .ret O G:=fun _ _ S st=>
 ⟨st.facts.defers,_,vt P fn m i j k hr _ _,_,S,rfl,st.ext,st.sat,[_,_,_,_],rfl,st.facts.at_ m s hm,st.facts.at_ i t hi,st.facts.at_ j u hj,st.facts.at_ k v hk,trivial⟩

structure LY{κ:Type} [DecidableEq κ](P:Program)(kt:TypeId)(kv:κ→Value):Prop where
 chk: ∀e w k,(Instr.checkKey e 10000 kt (kv k)).run P w= .ok () w
 eql: ∀w a b,(Op.equal kt (kv a) (kv b)).run P w= .ok (decide (a=b)) w
 wide:(match P.underlying kt with|some (.array _ _)|some (.struct _)=>true|_=>false)=true
 same: ∀k,Instr.sameBits 10000 (kv k) (kv k)=true
 inj: ∀a b,kv a=kv b→a=b
def Hb(p:Int×Int):Value:= .agg #[.int .i64 p.1,.int .i64 p.2]
def k2(l:List Int):Int×Int:=(l.getD 0 0,l.getD 1 0)
theorem Hc{kt el:Nat}(h:P.underlying kt=some (.array 2 el))(he:P.underlying el=some (.int .i64))(ti:TI P el sz bytes agg z)(hsz:Nat.beq sz 1=true)(hq:Jq P kt (jm (rI .i64) 2)):LY P kt Hb where
 chk:=fun e w k=>by
  obtain⟨i,zv,hi,hs,_⟩:=ti.get
  have h1:sz=1:=lR hsz
  have ha:(isAgg el).run P w= .ok false w:=by
   simp [isAgg,fI he,Result.andThen]
  have h3: ∀(j:Nat) (x:Int) (cs:Array Value),cs[j]? =some (.int .i64 x)→(part el cs (j*i.size)).run P w= .ok (.int .i64 x) w:=fun j x cs hj=>by
   simp [part,ha,Result.andThen,hs,h1,hj]
  have h4: ∀x:Int,(Instr.checkKey e 9999 el (.int .i64 x)).run P w= .ok () w:=fun x=>by
   show(Instr.checkKey e (9998+1) el (.int .i64 x)).run P w= .ok () w
   unfold Instr.checkKey
   simp only [nw,fI he,nL]
   rfl
  have e1:=h3 0 k.1 #[.int .i64 k.1,.int .i64 k.2] rfl
  have e2:=h3 1 k.2 #[.int .i64 k.1,.int .i64 k.2] rfl
  show(Instr.checkKey e (9999+1) kt (Hb k)).run P w= .ok () w
  unfold Instr.checkKey
  simp only [Hb,nw,fI h,nL,Std.Legacy.Range.forIn_eq_forIn_range',Std.Legacy.Range.size,Nat.sub_zero,Nat.add_sub_cancel,Nat.div_one,List.range'_succ,List.range'_zero,List.forIn_cons,List.forIn_nil,sizeOf,typeInfo,hi,vR,Nat.zero_mul,pt,Nat.one_mul]
  simp only [Nat.zero_mul,Nat.one_mul]at e1 e2
  simp [e1,e2,h4,Result.andThen,hi]
 eql:=fun w a b=>by
  have:=hq.run (fun _=>none) [.int .i64 a.1,.int .i64 a.2] [.int .i64 b.1,.int .i64 b.2] [a.1,a.2] [b.1,b.2] 9980 w ⟨rfl,[_],[_],rfl,rfl,[_],[],rfl,rfl,rfl⟩ ⟨rfl,[_],[_],rfl,rfl,[_],[],rfl,rfl,rfl⟩
  have e1:decide (([a.1,a.2]:List Int)=[b.1,b.2])=decide (a=b):=by
   obtain⟨a1,a2⟩:=a;obtain⟨b1,b2⟩:=b;simp
  rw [e1]at this
  show(Op.equalIn (9980+20) kt (Hb a) (Hb b)).run P w=_
  exact this
 wide:=by rw [h]
 same:=fun k=>by
  show Instr.sameBits (9999+1) (Hb k) (Hb k)=true
  unfold Instr.sameBits Hb
  simp only [List.zip_cons_cons,List.zip_nil_left,zi,List.all_nil]
  unfold Instr.sameBits
  simp
 inj:=fun a b h=>by
  obtain⟨a1,a2⟩:=a;obtain⟨b1,b2⟩:=b
  simpa [Hb] using h
section
variable{κ:Type} [DecidableEq κ]{γ:β→Ty}{kv:κ→Value}{k:κ}{kt:TypeId}
theorem ED{w:World}{S:SH}{k:κ}(hk:LY P kt kv): ∀{es:List MapEntry} {m:List (κ×β)} (i:Nat),ph γ kv S es m→
  ∃u,(Instr.findAsking kt (kv k) es i).run P w= .ok u w∧((u=none∧(∀x∈es,x.key≠kv k)∧oW m k=none)∨ ∃(j:Nat) (e:MapEntry) (y:β),u=some (i+j,e.val)∧es[j]? =some e∧e.key=kv k∧oW m k=some y∧(γ y).p S e.val)
 |[],[],i,_=>⟨none,by simp [Instr.findAsking],.inl ⟨rfl,fun x hx=>(by cases hx),rfl⟩⟩
 |e::es,q::m,i,⟨h1,h2,h3,h4⟩=>by
  by_cases hq:k=q.1
  ·subst hq
   refine⟨some (i,e.val),?_,.inr ⟨0,e,q.2,rfl,rfl,h1,by unfold oW;rw [c8 rfl],h2⟩⟩
   unfold Instr.findAsking
   simp [h1,hk.eql,Result.andThen]
  ·obtain⟨u,g1,g2⟩:=ED hk (k:=k) (w:=w) (i+1) h4
   refine⟨u,?_,?_⟩
   ·unfold Instr.findAsking
    simp [h1,hk.eql,hq,Result.andThen,g1]
   ·have hm:oW (q::m) k=oW m k:=by conv=>lhs;unfold oW;rw [dg (fun e=>hq e.symm)]
    rw [hm]
    rcases g2 with⟨e1,e2,e3⟩|⟨j,e',y,e1,e2,e3,e4,e5⟩
    ·refine .inl ⟨e1,fun x hx=>?_,e3⟩
     rcases gz.1 hx with rfl|hx
     ·rw [h1];exact fun e=>hq (hk.inj _ _ e).symm
     ·exact e2 x hx
    ·exact .inr ⟨j+1,e',y,by rw [e1];congr 2;omega,by simpa using e2,e3,e4,e5⟩
theorem Fz{q k:κ}{y:β}(hk:q≠k): ∀(m:List (κ×β)),(∀p∈m,p.1≠q)→ ∀p∈gm m k y,p.1≠q:=by
 intro m
 induction m with
 |nil=>intro _ p hp;rw [wB.1 hp];exact fun e=>hk e.symm
 |cons p0 m ih=>
  intro hm p hp
  unfold gm at hp
  split at hp
  ·rcases gz.1 hp with rfl|hp
   ·exact fun e=>hk e.symm
   ·exact hm p (kR _ hp)
  ·rcases gz.1 hp with rfl|hp
   ·exact hm _ (kU ..)
   ·exact ih (fun p hp=>hm p (kR _ hp)) p hp
theorem yO(hinj: ∀a b,kv a=kv b→a=b){y:β}{v:Value}{born:Nat}(hv:(γ y).p S v): ∀{es:List MapEntry} {m:List (κ×β)},ph γ kv S es m→(∀x∈es,x.key≠kv k)→ph γ kv S (es++[⟨kv k,v,born⟩]) (gm m k y)
 |[],[],_,_=>⟨rfl,hv,fun _ h=>(by cases h),trivial⟩
 |e::es,q::m,⟨h1,h2,h3,h4⟩,hn=>by
  have hq:q.1≠k:=fun e' =>hn e (kU ..) (by rw [h1,e'])
  have hm:gm (q::m) k y=q::gm m k y:=by conv=>lhs;unfold gm;rw [dg hq]
  rw [hm]
  exact⟨h1,h2,Fz hq m h3,yO hinj hv h4 fun x hx=>hn x (kR _ hx)⟩
theorem AI(hinj: ∀a b,kv a=kv b→a=b){y:β}{v:Value}(hv:(γ y).p S v): ∀{es:List MapEntry} {m:List (κ×β)},ph γ kv S es m→ ∀j e,es[j]? =some e→e.key=kv k→ph γ kv S (es.modify j fun e=>{e with key:=kv k,val:=v}) (gm m k y)
 |[],[],_,j,e,he,_=>by cases he
 |e0::es,q::m,⟨h1,h2,h3,h4⟩,j,e,he,hek=>by
  cases j with
  |zero=>
   have he' :e0=e:=kD he
   subst he'
   have hq:q.1=k:=hinj _ _ (by rw [←h1,hek])
   have hm:gm (q::m) k y=(k,y)::m:=by conv=>lhs;unfold gm;rw [c8 hq]
   rw [hm,List.modify_zero_cons]
   exact⟨rfl,hv,fun p hp=>by rw [←hq];exact h3 p hp,h4⟩
  |succ j=>
   have he' :es[j]? =some e:=by simpa using he
   obtain⟨y',hy'⟩: ∃q' ∈m,q'.1=k:=by
    have hmem: ∀{es:List MapEntry} {m:List (κ×β)},ph γ kv S es m→ ∀(j:Nat) (e:MapEntry),es[j]? =some e→e.key=kv k→ ∃q' ∈m,q'.1=k:=by
     intro es
     induction es with
     |nil=>intro m _ j e he _;simp at he
     |cons e1 es ih=>
      intro m hm j e he hek
      cases m with
      |nil=>exact hm.elim
      |cons q1 m=>
       obtain⟨g1,_,_,g4⟩:=hm
       cases j with
       |zero=>
        have e2:e1=e:=kD he
        subst e2
        exact⟨q1,kU ..,hinj _ _ (by rw [←g1,hek])⟩
       |succ j=>
        obtain⟨q',a1,a2⟩:=ih g4 j e (by simpa using he) hek
        exact⟨q',kR _ a1,a2⟩
    exact hmem h4 j e he' hek
   have hq:q.1≠k:=fun e' =>h3 y' hy'.1 (by rw [hy'.2,e'])
   have hm:gm (q::m) k y=q::gm m k y:=by conv=>lhs;unfold gm;rw [dg hq]
   rw [hm,wg]
   exact⟨h1,h2,Fz hq m h3,AI hinj hv h4 j e he' hek⟩
def CX(γ:β→Ty)(kv:κ→Value)(b:Nat)(m:List (κ×β)):OE where
 fp:=fun j=>j=b
 p:=fun w S=>S b=none∧ ∃es clock,w.heap[b]? =some (.map es clock)∧ph γ kv S es.toList m
 here:=by
  intro w S ⟨_,es,clock,h3,_⟩ j hj
  subst hj
  exact(nM.1 h3).1
 kept:=by
  intro C w w' S S' ⟨h1,es,clock,h3,h4⟩ k hC
  have hlt:=(nM.1 h3).1
  exact⟨by rw [k.old b hlt (hC b rfl)];exact h1,es,clock,by rw [k.heap b hlt (hC b rfl)];exact h3,qP k.keep h4⟩
end
section
variable{κ:Type} [DecidableEq κ]{γ:β→Ty}{kv:κ→Value}{m:List (κ×β)}{k:κ}{t kt et:TypeId}{x i v:Operand}{dst:Option Nat}
theorem IA{x:Operand}{l:List Int}(h:aw N G x (tD (jm (rI .i64) 2) l)):AR N G x (Hb (k2 l)):=fun S a hf=>by
 obtain⟨cs,e,h1,h2⟩:=h S a hf
 rw [e]
 match l,h1,h2 with
 |[p,q],_,h2=>
  have:=ut h2
  rw [this];rfl
theorem Dv(γ:β→Ty)(kv:κ→Value)(hd:Nat.blt d E.N.n=true)(k: ∀b,RG E ops Q rest (CX γ kv b []::O) ((d,tV (lw b))::G)):
  RG E ops Q (⟨some d,.makeMap t none,ty,pos,after,none⟩::rest) O G:= .of rfl fun a w S st=>by
 obtain⟨he,hs',hno⟩:=dN (w:=w) (.map #[] 0) st.sat
 have hrun:(execOp a.eval ⟨some d,.makeMap t none,ty,pos,after,none⟩).run E.P w= .ok (.value (lw w.heap.size)) (w.alloc (.map #[] 0)):=by
  simp [execOp,Instr.makeMap,lw]
 refine⟨fun c h=>(by cases h),?_⟩
 rw [hrun]
 exact k w.heap.size _ _ S ⟨st.ext.step0 he,hs',na st.own he ⟨hno,#[],0,xh w _,trivial⟩ (fun b hb=>ua hb.symm) st.base_le,st.facts.put hd rfl⟩
theorem Er{z:β}{zv:Value}(hm:E.P.underlying t=some (.map kt et))(hk:LY E.P kt kv)(hz:ZV E.P et zv)(hzt: ∀S,(γ z).p S zv)(hmem:CX γ kv b m∈O)(hx:aw E.N G x (tV (lw b)))(hi:AR E.N G i (kv k)):
  bL E O G ⟨dst,.lookup t x i false,ty,pos,after,g⟩ (γ ((oW m k).getD z)):= .of_pure fun a w S hs ho hf=>by
 obtain⟨⟨_,es,clock,h3,h4⟩,_⟩:=db.mem ho _ hmem
 have h1:a.eval x=lw b:=hx S a hf
 have h2:a.eval i=kv k:=hi S a hf
 obtain⟨u,g1,g2⟩:=ED hk (k:=k) (w:=w) 0 h4
 have hfk:(Instr.findKey kt (kv k) es.toList).run E.P w= .ok u w:=by rw [run_findKey_eq w hk.wide];exact g1
 rcases g2 with⟨rfl,_,g3⟩|⟨j,e,y,rfl,_,_,g3,g4⟩
 ·refine⟨zv,?_,by rw [g3];exact hzt S⟩
  simp [execOp,h1,h2,Instr.lookup,lw,fI hm,Cd h3,hk.chk,hfk,hz.run,Result.andThen]
 ·refine⟨e.val,?_,by rw [g3];exact g4⟩
  simp [execOp,h1,h2,Instr.lookup,lw,fI hm,Cd h3,hk.chk,hfk,Result.andThen]
theorem LT{y:β}(hm:E.P.underlying t=some (.map kt et))(hk:LY E.P kt kv)(hx:aw E.N G x (tV (lw b)))(hi:AR E.N G i (kv k))(hv:aw E.N G v (γ y))
  (h:RG E ops Q rest (CX γ kv b (gm m k y)::O) G):RG E ops Q (⟨none,.mapUpdate t x i v,ty,pos,after,none⟩::rest) (CX γ kv b m::O) G:= .of rfl fun a w S st=>by
 have h1:a.eval x=lw b:=hx S a st.facts
 have h2:a.eval i=kv k:=hi S a st.facts
 have h3:(γ y).p S (a.eval v):=hv S a st.facts
 obtain⟨⟨hno,es,clock,h5,h6⟩,_⟩:=st.own.1
 have hlt:=(nM.1 h5).1
 obtain⟨u,g1,g2⟩:=ED hk (k:=k) (w:=w) 0 h6
 have hfk:(Instr.findKey kt (kv k) es.toList).run E.P w= .ok u w:=by rw [run_findKey_eq w hk.wide];exact g1
 obtain⟨X,hrun,hX⟩: ∃X:Obj,(Instr.mapUpdate t (lw b) (kv k) (a.eval v)).run E.P w= .ok () {w with heap:=w.heap.setIfInBounds b X}∧ ∃es' cl',X= .map es' cl' ∧ph γ kv S es'.toList (gm m k y):=by
  rcases g2 with⟨rfl,g3,g4⟩|⟨j,e,y',rfl,g3,g4,_,_⟩
  ·refine⟨.map (es.push ⟨kv k,a.eval v,clock⟩) (clock+1),?_,_,_,rfl,by rw [Array.toList_push];exact yO hk.inj h3 h6 g3⟩
   simp [Instr.mapUpdate,lw,fI hm,Cd h5,hk.chk,hfk,Result.andThen,E8 _ h5]
  ·refine⟨.map (es.modify j fun e=>{e with key:=kv k,val:=a.eval v}) clock,?_,_,_,rfl,by rw [Array.toList_modify];exact AI hk.inj h3 h6 j e g3 g4⟩
   have hgd:((es[j]?).map (·.key)).getD (kv k)=kv k:=by
    rw [←E6,g3];exact g4
   simp only [pt]at hfk
   simp [Instr.mapUpdate,lw,fI hm,Cd h5,hk.chk,hfk,Result.andThen,hgd,Instr.keyThatStays,hk.same,E8 _ h5]
 have hrun' :(execOp a.eval ⟨none,.mapUpdate t x i v,ty,pos,after,none⟩).run E.P w= .ok .skip {w with heap:=w.heap.setIfInBounds b X}:=by simp [execOp,h1,h2,hrun]
 obtain⟨es',cl',rfl,h7⟩:=hX
 refine⟨fun c h=>(by cases h),?_⟩
 rw [hrun']
 obtain⟨q1,q2⟩:=MapKept.heap_set (o' := .map es' cl') h5
 obtain⟨f1,f2,f3⟩:=iZ (O:=O) st.sat (w' :={w with heap:=w.heap.setIfInBounds b (.map es' cl')}) (CX γ kv b m) (CX γ kv b (gm m k y)) st.own (fun _=>nf) (fun _=>nf) ⟨rfl,rfl,rfl,by simp,fO _⟩ (fun j hj=>q2 j hj) ⟨hno,es',cl',q1,h7⟩ hno
 exact h _ _ S ⟨st.ext.step f1 (fun c hc=>st.own.1.2 c hc),f2,f3,st.facts⟩
end

def Oj{α:Type}(cmp:α×α→Option Int)(x y:α):Bool:=
 match cmp (x,y)with
 |some c=>decide (c<0)
 |none=>false
def O4{α:Type}(lt:α→α→Bool)(x:α):List α→List α
 |[]=>[x]
 |y::ys=>if lt y x then y::O4 lt x ys else x::y::ys
def Mh{α:Type}(lt:α→α→Bool):List α→List α
 |[]=>[]
 |x::xs=>O4 lt x (Mh lt xs)
structure Good{α:Type}(cmp:α×α→Option Int)(xs:List α):Prop where
 len:xs.length≤1099511627776
 tot: ∀x∈xs,∀y∈xs,(cmp (x,y)).isSome=true
 irr: ∀x∈xs,Oj cmp x x=false
 tr: ∀x∈xs,∀y∈xs,∀z∈xs,Oj cmp x y=true→Oj cmp y z=true→Oj cmp x z=true
 anti: ∀x∈xs,∀y∈xs,Oj cmp x y=false→Oj cmp y x=false→x=y
def sortI(xs:List Int):List Int:=xs.mergeSort fun x y=>decide (x≤y)
theorem vo(xs:List Int):(sortI xs).length=xs.length:=by unfold sortI;simp
def xG(xs:List Int):Option (List Int):=if xs.length≤68719476736 then some (sortI xs)else none
theorem Cu{xs ys:List Int}(h:xG xs=some ys):xs.length≤68719476736∧ys=sortI xs:=by
 unfold xG at h
 split at h
 ·exact⟨by assumption,by simpa using h.symm⟩
 ·cases h

open Go.Sort Go.Shelf

structure Elt{α:Type}(r:Rp α)(S:SH)(XS:List α):Type where
 v:Value
 x:α
 h:r.rc S [v] x
 m:x∈XS
variable{os:Array Obj}
theorem uG{k:Nat}(h:k<w.heap.size):(grow w os).heap[k]? =w.heap[k]? :=by
 unfold grow;exact Array.getElem?_append_left h
theorem CZ [Inhabited α]{off:Nat}{d:Array α}{k:Nat}(h:k≠b):(putRow enc w b off d).heap[k]? =w.heap[k]? :=by
 unfold putRow mapBlock
 rw [Array.getElem?_modify,dg (Ne.symm h)]
theorem uF [Inhabited α]{off m:Nat}{d:Array α}{k:Nat}(hk:k<w.heap.size)(h:k≠b):(sortWorld enc w b off m d os).heap[k]? =w.heap[k]? :=by
 unfold sortWorld
 rw [uG (by rw [size_putRow];exact hk),CZ h];rfl
theorem By [Inhabited α]{off m:Nat}{d:Array α}{c:Array Value}{fr:Nat×Nat}(h:w.heap[b]? =some (.cells c T fr)):
  (sortWorld enc w b off m d os).heap[b]? =some (.cells (putCells enc off d c) T fr):=by
 have hlt:=(nM.1 h).1
 unfold sortWorld
 rw [uG (by rw [size_putRow];exact hlt)]
 unfold putRow mapBlock
 rw [Array.getElem?_modify,c8 rfl]
 show Option.map _ (w.heap[b]?)=_
 rw [h];rfl
theorem zx [Inhabited α]{d:Array α}{c:Array Value}(h:d.size≤c.size):(putCells enc 0 d c).toList.take d.size=d.toList.map enc:=by
 apply Cg
 intro k
 by_cases hk:k<d.size
 ·rw [vh hk]
  have hc:k<c.size:=by omega
  simp [putCells,hc,hk]
 ·rw [DM (by simp;omega),DM (by simp;omega)]
section
theorem Dt{m:Nat}(hl:m=n)(s:Nat)(hs:look G s=some (tV (an l cap n)))(k:RG E ops Q rest O ((s,tV (an l cap m))::G)):RG E ops Q rest O G:=by
 subst hl
 exact fun a w S st=>k a w S ⟨st.ext,st.sat,st.own,⟨st.facts.size,st.facts.defers,fun j t h=>by
  unfold look at h
  by_cases hb:Nat.beq s j=true
  ·rw [hb]at h
   have:=lR hb
   subst this
   have e:tV (an l cap m)=t:=by simpa using h
   rw [←e];exact st.facts.at_ s _ hs
  ·rw [tY]at hb
   rw [hb]at h
   exact st.facts.at_ j t h⟩⟩
end

theorem Fq{k:IntKind}{S:SH}: ∀{xs:List Int} {cs:List Value},np (rI k) S cs xs→cs=xs.map (Value.int k)
 |[],cs,h=>by rw [show cs=[]from h];rfl
 |x::xs,cs,⟨a,b,e,h1,h2⟩=>by
  rw [e,show a=[.int k x]from h1,Fq h2]
  rfl
theorem FE{k:IntKind}{S:SH}: ∀xs:List Int,np (rI k) S (xs.map (Value.int k)) xs
 |[]=>rfl
 |x::xs=>⟨[.int k x],_,rfl,rfl,FE xs⟩
theorem GG{ρ:Ren}(L:Lays.n189 P ρ){xs:List Int}(hlen0:xs.length≤68719476736)(hs:fM w S)(h:(cC (rI .i64) T l cap xs).p w S):
  Calls P (ρ.f 189) #[an l cap xs.length] w fun e w' =>e= .returned (.tuple #[])∧eI (fun k=>l=some k) w S w' S∧fM w' S∧(cC (rI .i64) T l cap (sortI xs)).p w' S:=by
 cases l with
 |none=>
  have hx:xs=[]:=vi (by obtain⟨_,h4,_⟩:=h;exact h4.1)
  subst hx
  exact(Any.slices_Sort_int_none (P:=P) (ρ:=ρ) L none 0 w).mono fun _ _ ⟨h1,h2⟩=>by subst h2;exact⟨h1,eQ _ _ _,hs,by simpa [sortI] using h⟩
 |some b=>
  obtain⟨cells0,⟨cur,hb,hle,hmax,hcs,hct⟩,hrc,hno0⟩:=h
  have hno:S b=none:=hno0 b rfl
  subst hct
  have h1:(rI .i64).sz=1:=rfl
  rw [h1,Nat.mul_one]at hcs hrc
  have hcells:=Fq hrc
  have hH:Holds (Value.int .i64) w b 0 xs.toArray:=by
   intro j hj
   have hj' :j<xs.length:=by simpa using hj
   have hc:cur[j]? =some (Value.int .i64 xs.toArray[j]!):=by
    have:(cur.toList.take xs.length)[j]? =some (Value.int .i64 xs.toArray[j]!):=by
     rw [hcells,xo,getElem!_pos xs.toArray j hj]
     simp [hj']
    rw [vh (by omega)]at this
    simpa using this
   refine⟨by simp [World.cell?,hb,hc],?_⟩
   simp [World.frozen?,hb]
  have hblk:=(nM.1 hb).1
  have hcall:=calls_of_every_depth fun D=>AnyS.slices_Sort_int_alone (P:=P) (ρ:=ρ) L D b 0 cap xs w hH hblk (by omega)
  refine hcall.mono fun e w' ⟨he,n,os,hw⟩=>?_
  have hlen:=vo xs
  have hw2:w' =sortWorld (Value.int .i64) w b 0 n (sortI xs).toArray os:=hw
  subst hw2
  refine⟨he,⟨rfl,rfl,rfl,Nat.le_add_right _ _,?_,fun k hk hkb=>uF hk (fun e=>hkb (by rw [e])),SH.le_refl _,fun _ _ _=>rfl⟩,hs.same fun k o hk=>?_,⟨_,⟨_,By hb,by omega,hmax,?_,rfl⟩,?_,hno0⟩⟩
  ·unfold sortWorld;rw [size_grow,size_putRow];exact Nat.le_add_right _ _
  ·have hkb:k≠b:=fun e=>by subst e;rw [hno]at hk;cases hk
   exact uF (hs.lt hk) hkb
  ·simp [putCells,h1,hcs]
  ·have e1:(sortI xs).length*(rI .i64).sz=(sortI xs).toArray.size:=by rw [h1];simp
   rw [e1,zx (by simp;omega)]
   exact FE (sortI xs)
section
theorem Jl{ρ:Ren}(L:Lays.n189 E.P ρ){f:FuncId}(hf:ρ.f 189=f)(hc:aj E.P f=true){xs ys:List Int}{x:Operand}{ats:Array TypeId}(hy:xG xs=some ys)(hx:aw E.N G x (tV (an l cap n)))(hn:n=xs.length)(hd:Nat.blt d E.N.n=true)(k:ys.length=n→RG E ops Q rest (cC (rI .i64) T l cap ys::O) ((d,xF)::G)):RG E ops Q (⟨some d,.call ⟨.value (.func f),#[x],ats⟩,ty,pos,after,none⟩::rest) (cC (rI .i64) T l cap xs::O) G:= .of rfl fun a w S st=>by
 obtain⟨hl0,rfl⟩:=Cu hy
 subst hf
 subst hn
 have h1:a.eval x=an l cap xs.length:=hx S a st.facts
 have hr:(execOp a.eval ⟨some d,.call ⟨.value (.func (ρ.f 189)),#[x],ats⟩,ty,pos,after,none⟩).run E.P w= .ok (.enter (ρ.f 189) #[an l cap xs.length]) w:=by
  have e0:a.eval (.func (ρ.f 189))= .func (.func (ρ.f 189)) #[] #[]:=rfl
  simp [execOp,resolve,e0,h1,Deferred.ofValue,invoke,em hc]
 refine⟨fun c h=>(by cases h),?_⟩
 rw [hr]
 refine(GG L hl0 st.sat st.own.1.1).mono fun e w' ⟨he,hext,hsat,hp⟩=>⟨_,he,?_⟩
 have hfp: ∀g∈O,∀b,g.fp b→ ¬(l=some b):=fun g hg b hb hl=>st.own.2.1 g hg b hl hb
 refine k (vo xs) _ _ S ⟨st.ext.step hext (fun c hc=>st.own.1.2 c hc),hsat,⟨⟨hp,st.own.1.2⟩,st.own.2.1,st.own.2.2.ext hext hfp⟩,?_⟩;exact(st.facts.mono hext.keep).put hd trivial
end
open Go.Lib

theorem mn(hle: ∀(b:Nat) (o:Obj),W.heap[b]? =some o→ ∃o',w.heap[b]? =some o' ∧zh o o'){v:Value}(h:W.cell? ⟨b,i,none⟩=some v):w.cell? ⟨b,i,none⟩=some v:=by
 unfold World.cell? at h ⊢
 cases hb:W.heap[b]? with
 |none=>simp [hb]at h
 |some o=>
  obtain⟨o',h1,h2⟩:=hle b o hb
  simp only [hb]at h
  simp only [h1]
  cases o with
  |cells c T fr=>
   obtain⟨l,rfl⟩:=h2
   simp only [Option.isSome_none,tZ,pr]at h ⊢
   rw [←E6]at h ⊢
   rw [t8 (lT.1 h).1]
   exact h
  |_=>simp at h
theorem DD{g:Nat}{T:Array CaseRow}(hle: ∀(b:Nat) (o:Obj),W.heap[b]? =some o→ ∃o',w.heap[b]? =some o' ∧zh o o')(h:CaseVar g T W):CaseVar g T w:=by
 obtain⟨R,oR,cap,h1,h2⟩:=h
 exact⟨R,oR,cap,mn hle h1,fun i hi=>⟨mn hle (h2 i hi).1,mn hle (h2 i hi).2.1,mn hle (h2 i hi).2.2.1,mn hle (h2 i hi).2.2.2.1,mn hle (h2 i hi).2.2.2.2⟩⟩
theorem BX{g3 g4:Nat}(hle: ∀(b:Nat) (o:Obj),W.heap[b]? =some o→ ∃o',w.heap[b]? =some o' ∧zh o o')(h:Utf8Tabs g3 g4 W):Utf8Tabs g3 g4 w:=
 ⟨fun c hc=>mn hle (h.1 c hc),fun i hi=>⟨mn hle (h.2 i hi).1,mn hle (h.2 i hi).2⟩⟩
end Go.Proofs.YtmogpgcfognefaaGreatDoor

