/- di of this claim: W27, W45, W46, W47, W52, W53, W56, W57, W58, W59, W44, W55, W15, W29, W54. -/
import Derived.Test.YtmogpgcfognefaaGreatDoorNdV3
import Derived.Test.YtmogpgcfognefaaGreatDoorNdV2
import Derived.OpenShut
import Derived.LaidMore
import Derived.Laws.Externs
import Derived.WideKeyRuns
import Derived.Shelf.SlSortCmp.NoneTotal
import Derived.Shelf.Slices.In.SortNone
import Derived.Test.YtmogpgcfognefaaGreatDoorNdV1
import Derived.Shelf.Unicode.CaseTo
import Derived.Shelf.Unicode.DecodeSlow
set_option linter.all false
namespace Go.Proofs.YtmogpgcfognefaaGreatDoor
open Go Go.ChangeShapes Go.WideShapes Go.ChangeAt Go.RowKit

variable{E:En}{P:Program}{S:SH}{W:World}{a:Act}{agg:Bool}{b c cap d:Nat}{e:TypeId}{α:Type}{enc:α→Value}{g:Option (Nat×Bool)}{k:IntKind}{l:Option Nat}{n:Nat}{ok:α→Prop}{p:Nat}{β:Type}{q:Rp β}{r r' :Rp α}{t:TypeId}{xs:List α}{y:Operand}
section
variable{H:Type}{enc:TypeId×Value→H}
def wl{α:Type}(r:Rp α)(ok:α→Prop):Rp α where
 sz:=r.sz
 agg:=r.agg
 rc:=fun S cs x=>r.rc S cs x∧ok x
 mono:=fun h k=>⟨r.mono h k.1,k.2⟩
 len:=fun k=>r.len k.1
 one:=fun k=>r.one k.1
 sc:=r.sc
def th(k:IntKind)(n:Int):Prop:=k.min≤n∧n≤k.max
def SS(s:iZ):Prop:=s.length≤maxLen
def MZ{α:Type}(ok:α→Prop)(xs:List α):Prop:=xs.length≤maxLen∧ ∀x∈xs,ok x
def UT{α:Type}(_:α):Prop:=True
theorem Cr(h:P.underlying t=some (.int k))(hc:P.cellsOf t=1):wa enc P W t (wl (rI k) (th k)):=⟨hc,fun fuel cs x hx=>by
 cases fuel with
 |zero=>simp [DataW.trod]at hx
 |succ n=>
  unfold DataW.trod at hx
  rw [h]at hx
  split at hx
  all_goals try (injections;done)
  ·rename_i k1 k2 m heq
   injection heq with e
   injection e with e
   subst e
   split at hx
   ·rename_i h2
    obtain⟨rfl,h3⟩:=h2
    simp only [Lit.wf,iz,oU]at h3
    exact⟨m,rfl,h3⟩
   ·cases hx⟩
theorem NT(h:P.underlying t=some .string)(hc:P.cellsOf t=1):wa enc P W t (wl rS SS):=⟨hc,fun fuel cs x hx=>by
 cases fuel with
 |zero=>simp [DataW.trod]at hx
 |succ n=>
  unfold DataW.trod at hx
  rw [h]at hx
  split at hx
  all_goals try (injections;done)
  ·rename_i s heq
   split at hx
   ·rename_i h2;exact⟨s.data.toList,rfl,(show s.data.toList.length≤maxLen from(show s.size=s.data.toList.length from rfl)▸h2)⟩
   ·cases hx⟩
theorem L8(h:P.underlying t=some .bool)(hc:P.cellsOf t=1):wa enc P W t (wl rB UT):=
 ⟨hc,fun fuel cs x hx=>by obtain⟨y,hy⟩:=(NU (enc:=enc) (W:=W) h hc).2 fuel cs x hx;exact⟨y,hy,trivial⟩⟩
def DZ{α:Type}(r' r:Rp α)(ok:α→Prop):Prop:=r'.sz=r.sz∧r'.agg=r.agg∧ ∀S cs x,r'.rc S cs x→r.rc S cs x∧ok x
theorem js:DZ (wl r ok) r ok:=⟨rfl,rfl,fun _ _ _ h=>h⟩
theorem KB{α:Type}{r' r:Rp α}{ok:α→Prop}(h:DZ r' r ok){S:SH}: ∀{xs:List α} {cs:List Value},si r' S cs xs→si r S cs xs∧ ∀x∈xs,ok x
 |[],_,k=>⟨k,fun x hx=>by cases hx⟩
 |x::xs,_,⟨a,b,e,h1,h2⟩=>by
  obtain⟨g1,g2⟩:=h.2.2 _ _ _ h1
  obtain⟨g3,g4⟩:=KB h h2
  exact⟨⟨a,b,e,g1,g3⟩,fun y hy=>by
   rcases kp.1 hy with rfl|hy
   ·exact g2
   ·exact g4 y hy⟩
theorem q0(h:DZ r' r ok):DZ (eX r') (eX r) (MZ ok):=⟨rfl,rfl,fun S cs xs ⟨a,cap,e,h1,h2,h3⟩=>by
 rcases h3 with h3|⟨b,off,c,E,fr,e1,e2,e3⟩
 ·exact⟨⟨a,cap,e,h1,h2,.inl h3⟩,by omega,fun x hx=>by rw [h3]at hx;cases hx⟩
 ·rw [h.1]at e3
  obtain⟨g1,g2⟩:=KB h e3
  exact⟨⟨a,cap,e,h1,h2,.inr ⟨b,off,c,E,fr,e1,e2,g1⟩⟩,by omega,g2⟩⟩
theorem fx{p' p:Rp α}{q' :Rp β}{f:α→Prop}{g:β→Prop}(h:DZ p' p f)(k:DZ q' q g):DZ (co p' q') (co p q) (fun x=>f x.1∧g x.2):=
 ⟨by show p'.sz+q'.sz=p.sz+q.sz;rw [h.1,k.1],rfl,fun S cs x ⟨a,b,e,h1,h2⟩=>⟨⟨a,b,e,(h.2.2 _ _ _ h1).1,(k.2.2 _ _ _ h2).1⟩,(h.2.2 _ _ _ h1).2,(k.2.2 _ _ _ h2).2⟩⟩
theorem ql{p' p:Rp α}{f:β→α}(h:DZ p' p ok):DZ (lI p' f) (lI p f) (fun x=>ok (f x)):=
 ⟨h.1,rfl,fun S cs x k=>h.2.2 _ _ _ k⟩
theorem Sr(h:wa enc P W t r')(hr:DZ r' r ok)(hag:r.agg=false){v:Value}{d:DataW H}{ps:List MemPlace}(hv:DataW.Trod enc P W 0 (fun _=>true) true t v d ps)(hc:v.cells= #[v]): ∃y,(tD r y).p (Em W) v∧ok y:=by
 obtain⟨y,cs,e,hy⟩:=Hz h (by rw [hr.2.1];exact hag) hv hc
 obtain⟨g1,g2⟩:=hr.2.2 _ _ _ hy
 exact⟨y,⟨cs,by rw [e];unfold Rp.val;rw [hr.2.1],g1⟩,g2⟩
theorem LH(h:wa enc P W t r')(hr:DZ r' r ok)(hag:r.agg=true){v:Value}{d:DataW H}{ps:List MemPlace}(hv:DataW.Trod enc P W 0 (fun _=>true) true t v d ps)(hc:v= .agg v.cells): ∃y,(tD r y).p (Em W) v∧ok y:=by
 obtain⟨fuel,hx⟩:=hv
 obtain⟨y,hy⟩:=h.2 _ _ _ hx
 obtain⟨g1,g2⟩:=hr.2.2 _ _ _ hy
 exact⟨y,⟨_,by unfold Rp.val;rw [hag,bQ rfl];exact hc,g1⟩,g2⟩
theorem zL{base:Nat}{l:Array Field}{v:Value}(ht:P.underlying t=some (.struct l))(hv:Value.okWide P W .any base t v):v= .agg v.cells:=by
 unfold Value.okWide at hv
 rw [ht]at hv
 obtain⟨cs,e,_⟩:=hv
 rw [e]
 rfl
end

variable{Ds:List (DataW Unit)}{T:TypeId}{cells:List Value}{hi:Int}{i j:Nat}
section
variable{held:Bool}
def Td(P:Program)(W:World)(held:Bool)(t:TypeId)(D:DataW Unit)(cells:List Value):Prop:=
 P.cellsOf t=cells.length∧ ∀fuel cs x,DataW.trod (fun _=>()) P W 0 (fun _=>true) held fuel t cs=some x→x.1=D→cs=cells
theorem FO{n:Int}(h:P.underlying t=some (.int k))(hc:P.cellsOf t=1):Td P W held t (.lit (.int k n)) [.int k n]:=⟨hc,fun fuel cs x hx hD=>by
 obtain⟨m,h1,h2,_⟩:=DataW.trod_int h hx
 subst h2
 simp only [DataW.lit.injEq,Lit.int.injEq,true_and]at hD
 rw [h1,hD]⟩
theorem fF{s:List UInt8}(h:P.underlying t=some .string)(hc:P.cellsOf t=1):Td P W held t (.lit (.string s)) [.string ⟨s.toArray⟩]:=⟨hc,fun fuel cs x hx hD=>by
 obtain⟨m,h1,h2,_⟩:=DataW.trod_string h hx
 subst h2
 simp only [DataW.lit.injEq,Lit.string.injEq]at hD
 subst hD
 rw [h1]⟩
def FC(P:Program)(W:World)(held:Bool)(off:Nat)(l:List (TypeId×Nat))(Ds:List (DataW Unit))(cells:List Value):Prop:=
 ∀(n:Nat) (cs:List Value),cs.length=off+cells.length→(∀(i:Nat) f,l[i]? =some f→ ∃x,DataW.trod (fun _=>()) P W 0 (fun _=>true) held n f.1 ((cs.drop f.2).take (P.cellsOf f.1))=some x∧Ds[i]? =some x.1)→cs.drop off=cells
theorem Dk{off:Nat}:FC P W held off [] [] []:=fun n cs hl _=>vf (by simp at hl;omega)
theorem eG{off off' :Nat}{l:List (TypeId×Nat)}{D:DataW Unit}{c:List Value}(h:Td P W held t D c)(ho:off' =off+c.length)(k:FC P W held off' l Ds cells):FC P W held off ((t,off)::l) (D::Ds) (c++cells):=fun n cs hl hx=>by
 obtain⟨x,h1,h2⟩:=hx 0 (t,off) rfl
 simp only [EC,Option.some.injEq]at h2
 have h3:=h.2 n _ x h1 h2.symm
 have h4:=k n cs (by rw [hl,ho,mt];omega) fun i f hf=>by simpa using hx (i+1) f (by simpa using hf)
 have e:cs.drop off=(cs.drop off).take (P.cellsOf t)++cs.drop off' :=by
  rw [ho,←h.1,←vd,sS]
 rw [e,h4]
 exact congrArg (· ++cells) h3
theorem yb{l:List (TypeId×Nat)}(ht:(P.underlying t).map (fun d=>match d with| .struct l=>(true,l.toList.map fun f=>(f.type,f.offset))|_=>(false,[]))=some (true,l))(hc:P.cellsOf t=cells.length)(hf:FC P W held 0 l Ds cells):Td P W held t (.agg Ds) cells:=⟨hc,fun fuel cs x hx hD=>by
 obtain⟨fs,h1,h2⟩: ∃fs,P.underlying t=some (.struct fs)∧fs.toList.map (fun f=>(f.type,f.offset))=l:=by
  cases hu:P.underlying t with
  |none=>rw [hu]at ht;cases ht
  |some d=>
   rw [hu]at ht
   cases d<;>simp at ht
   exact⟨_,rfl,ht⟩
 obtain⟨xs,n,rfl,h3,h4,h5,h6⟩:=DataW.trod_struct h1 hx
 rw [h3]at hD
 simp only [DataW.agg.injEq]at hD
 have:=hf n cs (by rw [h4,hc];omega) fun i f hi=>by
  rw [←h2,Ez]at hi
  obtain⟨f0,hf0,rfl⟩:=Option.map_eq_some_iff.1 hi
  have h7:=h6 i f0 (by simpa using hf0)
  have hlt:i<xs.length:=by
   have:=(pc.1 hf0).1
   rw [h5];simpa using this
  rw [nP hlt]at h7
  exact⟨xs[i],h7,by rw [←hD];simp [hlt]⟩
 rwa [sa]at this⟩
theorem Ks{m:Nat}(ht:P.underlying t=some (.array m e))(hc:P.cellsOf t=cells.length)(hf:FC P W held 0 ((List.range m).map fun i=>(e,i*P.cellsOf e)) Ds cells):Td P W held t (.agg Ds) cells:=⟨hc,fun fuel cs x hx hD=>by
 obtain⟨xs,n,rfl,h3,h4,h5,h6⟩:=DataW.trod_array ht hx
 rw [h3]at hD
 simp only [DataW.agg.injEq]at hD
 have:=hf n cs (by rw [h4,hc];omega) fun i f hi=>by
  rw [Ez]at hi
  obtain⟨j,hj,rfl⟩:=Option.map_eq_some_iff.1 hi
  obtain⟨hlt,hj2⟩:=pc.1 hj
  simp at hlt hj2
  subst hj2
  have h7:=h6 i hlt
  have hlt' :i<xs.length:=by rw [h5];exact hlt
  rw [nP hlt']at h7
  exact⟨xs[i],h7,by rw [←hD];simp [hlt']⟩
 rwa [sa]at this⟩
theorem HW: ∀{L:List (String×DataW Unit)} {ps:List MemPlace},DataW.LaidVars P W L ps→ ∀n d,(n,d)∈L→ ∃g t cs fuel p,P.globalNamed n=some g∧(P.globals[g]?).map (·.type)=some t∧W.var? P n=some cs∧DataW.trod (fun _=>()) P W 0 (fun _=>true) false fuel t cs.toList=some (d,p)
 |(_,_)::_,_,⟨g,t,cs,fuel,p,_,h1,h2,h3,h4,_,_⟩,_,_,.head _=>⟨g,t,cs,fuel,p,h1,h2,h3,h4⟩
 |(_,_)::_,_,⟨_,_,_,_,_,_,_,_,_,_,h,_⟩,n,d,.tail _ hm=>HW h n d hm
theorem zz{L:List (String×DataW Unit)}(h:laidMet P L W){n:String}{d:DataW Unit}(hm:(n,d)∈L){g:Nat}(hg:P.globalNamed n=some g)(ht:(P.globals[g]?).map (·.type)=some t)(hc:Td P W false t d cells):
  ∃c T fr,W.heap[g]? =some (.cells c T fr)∧c.toList.take cells.length=cells:=by
 obtain⟨ps,hL,_,_⟩:=h
 obtain⟨g',t',cs,fuel,p,h1,h2,h3,h4⟩:=HW hL n d hm
 obtain rfl:=od (hg.symm.trans h1)
 obtain rfl:=od (ht.symm.trans h2)
 have h5:=hc.2 fuel _ _ h4 rfl
 unfold World.var? at h3
 rw [hg]at h3
 simp only [bA]at h3
 split at h3
 ·rename_i c T fr hb
  cases h3
  exact⟨_,_,_,hb,by rw [h5,Cd]⟩
 ·cases h3
end

theorem HC{α:Type}{r:Rp α}(hfree: ∀{S S' :SH} {cs:List Value} {x:α},r.rc S cs x→r.rc S' cs x){S S' :SH}: ∀{xs:List α} {cs:List Value},si r S cs xs→si r S' cs xs
 |[],_,h=>h
 |_::_,_,h=>by
  obtain⟨ds,es,h1,h2,h3⟩:=h
  exact⟨ds,es,h1,hfree h2,HC hfree h3⟩
variable{S1:SH}{mm:Bool}{w:World}
theorem XU(h:zM mm r T l cap xs w S)(hs:jp w S): ∃S1,SH.le S S1∧jp w S1∧(tD (eX r) xs).p S1 (aD l cap xs.length):=by
 cases mm with
 |true=>exact⟨S,SH.le_refl _,hs,oh h⟩
 |false=>
  obtain⟨cells,h1,h2,h3⟩:=h
  cases l with
  |none=>exact⟨S,SH.le_refl _,hs,oh (T:=T) ⟨cells,h1,h2,fun b hb=>(by cases hb)⟩⟩
  |some b=>
   obtain⟨cur,g1,g2,g3,g4,g5⟩:=h1
   have hoo:DY (.cells cells.toArray T (0,0)) (.cells cur T (0,0)):=by
    refine⟨cur.toList.drop (xs.length*r.sz),?_⟩
    congr 1
    apply Array.ext'
    rw [←g5,sS]
   have hn:S b=none:=h3 b rfl
   have hle:SH.le S (S.set b (.cells cells.toArray T (0,0))):=u7 fun q hq=>(by rw [hn]at hq;cases hq)
   have hsat:jp w (S.set b (.cells cells.toArray T (0,0))):=hs.set g1 hoo fun q hq=>by rw [hn]at hq;cases hq
   refine⟨_,hle,hsat,oh (T:=T) ⟨cells,⟨cur,g1,g2,g3,g4,g5⟩,rP hle h2,fun b' hb' =>?_⟩⟩
   have hb2:b=b' :=od hb'
   subst hb2
   exact mZ _ _ _
variable{G:mr}{N:Fr}{ts:List Ty}
section
theorem rF{t:Ty}{v:Value}{vs:List Value}(h:t.p S1 v)(k:vO S1 ts vs):vO S1 (t::ts) (v::vs):=⟨h,k⟩
theorem Kr{G:mr}{x:Operand}{t:Ty}(h:aL N G x t)(hf:di N S a G)(hle:SH.le S S1):t.p S1 (a.eval x):=t.mono hle (h S a hf)
theorem FR{b:Bool}(S S' :SH)(v:Value)(h:(tD rB b).p S v):(tD rB b).p S' v:=iv.2 (iv.1 h)
end
section
variable{H:Type}{enc:TypeId×Value→H}
end

section
theorem hH{y:α}{v:Value}{x:Operand}(hag:r.agg=true)(hr: ∀S,r.rc S [v] y)(h:aL N G x (tV (.agg #[v]))):aL N G x (tD r y):=fun S a hf=>⟨[v],by rw [Rp.val,bQ hag];exact h S a hf,hr S⟩
end

section
variable{N:Nat}{w0:World}{S0:SH}{fn:Func}{O1:List OE}{ι:Type}{t:ι→Ty}{O2:ι→List OE}
end
section
variable{c:Code}
end


theorem J{α:Sort _}{a:α}:a=a:=rfl
theorem bm:True:=trivial
abbrev bY(x:Int):Ty:=tD (rI .i64) x
abbrev gD(x:Bool):Ty:=tD rB x
abbrev gA{α:Type}(l:List α):Ty:=tD (rI .i64) (l.length:Int)
abbrev jd:Rp (List Int):=eX (rI .i64)
abbrev ji(l:List Int):Ty:=tD (eX (rI .i64)) l
abbrev eV{α:Type}(r:Rp α)(l:List α):Ty:=tD (eX r) l
abbrev mU{α:Type}(l:Option Nat)(c:Nat)(xs:List α):Ty:=tV (aD l c xs.length)
theorem aQ: ∀{G' G:mr},G'.map (fun p=>look G p.1)=G'.map (fun p=>some p.2)→Jc G' G
 |[],_,_=>trivial
 |(_,_)::_,_,h=>⟨(List.cons.inj h).1,aQ (List.cons.inj h).2⟩

variable{O:List OE}{U:TypeId}{after:Array Edge}{bytes:Nat}{dst:Option Tmp}{o:Operand}{pos:String}{sz:Nat}{ty:TypeId}{z:List Value}
section
theorem cq{x:Nat}{t:Ty}(h:look G x=some t):cO E O G ⟨dst,.move (.tmp x),ty,pos,after,g⟩ t:=bk (ht h)
theorem yG{x:Nat}{t:Ty}(h:look G x=some t):cO E O G ⟨dst,.assign (.tmp x),ty,pos,after,g⟩ t:=aP (ht h)
theorem dv{n:Int}:cO E O G ⟨dst,.assign (.const (.int k n)),ty,pos,after,g⟩ (tD (rI k) n):=aP hI
theorem ei{b:Bool}:cO E O G ⟨dst,.assign (.const (.bool b)),ty,pos,after,g⟩ (tD rB b):=aP hB
theorem bj{x:α}(ti:TI E.P U sz bytes agg z)(hp:look G p=some (bF r x))(hs:(r.sz,r.agg)=(sz,agg)):
  cO E O G ⟨dst,.load U (.tmp p),ty,pos,after,g⟩ (tD r x):=aF ti (Prod.mk.inj hs).1 (Prod.mk.inj hs).2 (ht hp)
theorem bw{get:α→β}{x:α}{off:Nat}(hf:cG E.P T i=some (off,sz))(hq:lQ r off q get)(hp:look G p=some (bF r x))(h0:(!(Nat.beq sz 0)&&Nat.ble (off+q.sz) r.sz)=true):cO E O G ⟨dst,.fieldAddr T (.tmp p) i,ty,pos,after,g⟩ (bF q (get x)):=
 cR hf (by cases h:Nat.beq sz 0<;>simp [h]at h0 ⊢) hq (by revert h0;cases Nat.ble (off+q.sz) r.sz<;>simp) (ht hp)
theorem fU{x:Nat}(hu:E.P.underlying t=some (.slice e))(hx:look G x=some (tD (eX r) xs)):
  cO E O G ⟨dst,.call ⟨.builtin .len,#[.tmp x],#[t]⟩,ty,pos,after,g⟩ (tD (rI .i64) (xs.length:Int)):=bg hu (ht hx)
theorem iA{x:Nat}{t:Ty}(hi:ts[i]? =some t)(hx:look G x=some (tT ts)):cO E O G ⟨dst,.extract (.tmp x) i,ty,pos,after,g⟩ t:=C2 hi (ht hx)
theorem lK{v:α}{x:Nat}(hx:look G x=some (tD r v)):cO E O G ⟨dst,.box T (.tmp x),ty,pos,after,g⟩ (bF r v):=Jy (ht hx)
theorem hZ{x:Nat}{b q:Bool}(hc:look G c=some (tD rB b))(hx:look G x=some (sh b (tD rB q))):cO E O G ⟨dst,.pick (.tmp c) (.tmp x) (.const (.bool false)),ty,pos,after,g⟩ (tD rB (b&&q)):=iP (ht hc) (fun hb=>aG hx hb)
theorem lH{x:Nat}{b q:Bool}(hc:look G c=some (tD rB b))(hx:look G x=some (sh (!b) (tD rB q))):cO E O G ⟨dst,.pick (.tmp c) (.const (.bool true)) (.tmp x),ty,pos,after,g⟩ (tD rB (b||q)):=j7 (ht hc) (fun hb=>aG hx (mW hb))
variable{xt yt:TypeId}{x y:Nat}{m n:Int}
theorem eu(hx:look G x=some (tD (rI k) m))(hy:look G y=some (tD (rI k) n)):cO E O G ⟨dst,.binOp .lss xt (.tmp x) (.tmp y) yt,ty,pos,after,g⟩ (tD rB (decide (m<n))):=eg (ht hx) (ht hy)
theorem eQ{j:IntKind}(hx:look G x=some (tD (rI j) m)):cO E O G ⟨dst,.binOp .eql xt (.tmp x) (.const (.int j n)) yt,ty,pos,after,g⟩ (tD rB (m==n)):=bq (ht hx) hI
theorem uP{j:IntKind}(hx:look G x=some (tD (rI j) m)):cO E O G ⟨dst,.binOp .neq xt (.tmp x) (.const (.int j n)) yt,ty,pos,after,g⟩ (tD rB (m !=n)):=cA (ht hx) hI
theorem gM{y:α}{x ix:Nat}{k:IntKind}{i:Int}(hu:E.P.underlying t=some (.slice e))(ti:TI E.P e sz bytes agg z)(hsz:r.sz=sz)(hx:look G x=some (tD (eX r) xs))(hi:look G ix=some (tD (rI k) i))(hy:dC xs i=some y):
  cO E O G ⟨dst,.indexAddr t (.tmp x) (.tmp ix),ty,pos,after,g⟩ (bF r y):=bW hu ti hsz (ht hx) (ht hi) hy
theorem je{x:Nat}{xt yt:TypeId}(hi:i<9223372036854775807)(hx:look G x=some (tD (rI .i64) (i:Int))):
  cO E O G ⟨dst,.binOp .add xt (.tmp x) (.const (.int .i64 1)) yt,ty,pos,after,g⟩ (tD (rI .i64) ((i+1:Nat):Int)):=zk hi (ht hx) hI
theorem fi{off o:Nat}(n:Nat)(hf:cG E.P T i=some (off,sz))(h0:Nat.beq sz 0=false)(hp:look G p=some (tV (aN b o)))(he:o+off=n):cO E O G ⟨dst,.fieldAddr T (.tmp p) i,ty,pos,after,g⟩ (tV (aN b n)):=cr (n:=n) hf h0 (ht hp) he
end
variable{Q:Exit→Act→World→Prop}{gs:Nat}{op:Op}{ops:Array Oper}
section
variable{l:List Oper}
theorem zo{t:Ty}(hd:Nat.blt d E.N.n=true)(h:cO E O G ⟨some d,op,ty,pos,after,none⟩ t)(k:RG E ops Q l O ((d,t)::G)):
  RG E ops Q (⟨some d,op,ty,pos,after,none⟩::l) O G:=PB h hd k
def SN(n d:Nat)(r:Option Ty):Option Ty:=if Nat.blt d n then r else none
theorem lZ{r:Option Ty}{t:Ty}(h:SN n d r=some t):Nat.blt d n=true∧r=some t:=by
 unfold SN at h;split at h
 case isTrue h1=>exact⟨h1,h⟩
 case isFalse=>cases h
theorem ax{x:Nat}{t:Ty}(h:SN E.N.n d (look G x)=some t)(k:RG E ops Q l O ((d,t)::G)):
  RG E ops Q (⟨some d,.move (.tmp x),ty,pos,after,none⟩::l) O G:=PB (bk (ht (lZ h).2)) (lZ h).1 k
theorem aY{x:Nat}{t:Ty}(h:SN E.N.n d (look G x)=some t)(k:RG E ops Q l O ((d,t)::G)):
  RG E ops Q (⟨some d,.assign (.tmp x),ty,pos,after,none⟩::l) O G:=PB (aP (ht (lZ h).2)) (lZ h).1 k
theorem al{y:Code}(h:CG E Q y O G):RG E ops (Exit.then (y.wpIn (fw E.r) 0 E.P Q) Q) [] O G:=aC (ai h)
theorem an{id:Nat}{l:List Oper}{y:Code}(h:RG E l.toArray (Exit.then (y.wpIn (fw E.r) 0 E.P Q) Q) l O G):CG E Q (.seq (.region id l.toArray false) y) O G:=ae (ah h)
theorem cz{β:Type _}{X Y:Option β}{r:β}{x y:Code}{b:Bool}(h:(if b=true then X else Y)=some r)(hb:look G c=some (tD rB b))(hx:X=some r→CG E Q x O G)(hy:Y=some r→CG E Q y O G):CG E Q (.cond (.tmp c) x y) O G:=
 rA (ht hb) (fun hc=>hx (ct h hc)) (fun hc=>hy (cf h hc))
theorem dF{y:Code}(h:CG E Q y O G):CG E (Exit.then (y.wpIn (fw E.r) 0 E.P Q) Q) .skip O G:=aO (ai h)
theorem bo{b:Bool}{t:Ty}(hj:(ops[j]?).bind (·.dst)=some gs)(hg:SN E.N.n gs (SN E.N.n d (look G gs))=some (tD rB b))(h:b=true→cO E O G ⟨some d,op,ty,pos,after,some (j,true)⟩ t)(k:RG E ops Q l O ((d,sh b t)::G)):RG E ops Q (⟨some d,op,ty,pos,after,some (j,true)⟩::l) O G:=Sw hj (lZ hg).1 (lZ (lZ hg).2).2 (lZ (lZ hg).2).1 h k
theorem bX{b:Bool}{t:Ty}(hj:(ops[j]?).bind (·.dst)=some gs)(hg:SN E.N.n gs (SN E.N.n d (look G gs))=some (tD rB b))(h:(!b)=true→cO E O G ⟨some d,op,ty,pos,after,some (j,false)⟩ t)(k:RG E ops Q l O ((d,sh (!b) t)::G)):RG E ops Q (⟨some d,op,ty,pos,after,some (j,false)⟩::l) O G:=Sx hj (lZ hg).1 (lZ (lZ hg).2).2 (lZ (lZ hg).2).1 h k
end
theorem bM{α:Type _}{β:Type _}{x:Option α}{k:α→Option β}{r:β}{P:Prop}(h:x.bind k=some r)(f: ∀y,x=some y→k y=some r→P):P:=by
 obtain⟨y,h1,h2⟩:=bs h;exact f y h1 h2
variable{u u1:Ty}
section
variable{l:List Oper}{o:Oper}{t:Ty}
theorem BR{a b c:Bool}(h:(a&&b&&c)=true):a=true∧b=true∧c=true:=by revert h;cases a<;>cases b<;>cases c<;>simp
theorem VC{x:Option α}(h:x.isNone=true):x=none:=by cases x;rfl;cases h
theorem zd0(h:ts[i]? =some t)(hb:(fq i o&&o.guard.isNone)=true)(k:cO E O [] o t): ∃(needs:List Nd) (t:Ty),ts[i]? =some t∧tz G ts needs∧(needs.all (qj l o i))=true∧fq i o=true∧bN E O l.toArray (kG needs) o t:=
 ⟨[],t,h,trivial,rfl,(G4.1 hb).1,ak (VC (G4.1 hb).2) k⟩
theorem ic(a:Nat)(h:ts[i]? =some t)(hu:w7 G ts ⟨a,u,none⟩)(hb:([(⟨a,u,none⟩:Nd)].all (qj l o i)&&fq i o&&o.guard.isNone)=true)(k:cO E O [(a,u)] o t): ∃(needs:List Nd) (t:Ty),ts[i]? =some t∧tz G ts needs∧(needs.all (qj l o i))=true∧fq i o=true∧bN E O l.toArray (kG needs) o t:=
 ⟨[(⟨a,u,none⟩:Nd)],t,h,⟨hu,trivial⟩,(BR hb).1,(BR hb).2.1,ak (VC (BR hb).2.2) k⟩
theorem dc(a:Nat)(j:Nat)(h:ts[i]? =some t)(hu:w7 G ts ⟨a,u,(some j)⟩)(hb:([(⟨a,u,(some j)⟩:Nd)].all (qj l o i)&&fq i o&&o.guard.isNone)=true)(k:cO E O [(a,u)] o t): ∃(needs:List Nd) (t:Ty),ts[i]? =some t∧tz G ts needs∧(needs.all (qj l o i))=true∧fq i o=true∧bN E O l.toArray (kG needs) o t:=
 ⟨[(⟨a,u,(some j)⟩:Nd)],t,h,⟨hu,trivial⟩,(BR hb).1,(BR hb).2.1,ak (VC (BR hb).2.2) k⟩
theorem jn(a:Nat)(a1:Nat)(j1:Nat)(h:ts[i]? =some t)(hu:w7 G ts ⟨a,u,none⟩)(hu1:w7 G ts ⟨a1,u1,(some j1)⟩)(hb:([(⟨a,u,none⟩:Nd),⟨a1,u1,(some j1)⟩].all (qj l o i)&&fq i o)=true)(k:bN E O l.toArray [(a,u),(a1,u1)] o t): ∃(needs:List Nd) (t:Ty),ts[i]? =some t∧tz G ts needs∧(needs.all (qj l o i))=true∧fq i o=true∧bN E O l.toArray (kG needs) o t:=
 ⟨[(⟨a,u,none⟩:Nd),⟨a1,u1,(some j1)⟩],t,h,⟨hu,hu1,trivial⟩,(G4.1 hb).1,(G4.1 hb).2,k⟩
theorem eT(a:Nat)(j:Nat)(a1:Nat)(j1:Nat)(h:ts[i]? =some t)(hu:w7 G ts ⟨a,u,(some j)⟩)(hu1:w7 G ts ⟨a1,u1,(some j1)⟩)(hb:([(⟨a,u,(some j)⟩:Nd),⟨a1,u1,(some j1)⟩].all (qj l o i)&&fq i o&&o.guard.isNone)=true)(k:cO E O [(a,u),(a1,u1)] o t): ∃(needs:List Nd) (t:Ty),ts[i]? =some t∧tz G ts needs∧(needs.all (qj l o i))=true∧fq i o=true∧bN E O l.toArray (kG needs) o t:=
 ⟨[(⟨a,u,(some j)⟩:Nd),⟨a1,u1,(some j1)⟩],t,h,⟨hu,hu1,trivial⟩,(BR hb).1,(BR hb).2.1,ak (VC (BR hb).2.2) k⟩
theorem dR(a:Nat)(j:Nat)(a1:Nat)(j1:Nat)(h:ts[i]? =some t)(hu:w7 G ts ⟨a,u,(some j)⟩)(hu1:w7 G ts ⟨a1,u1,(some j1)⟩)(hb:([(⟨a,u,(some j)⟩:Nd),⟨a1,u1,(some j1)⟩].all (qj l o i)&&fq i o)=true)(k:bN E O l.toArray [(a,u),(a1,u1)] o t): ∃(needs:List Nd) (t:Ty),ts[i]? =some t∧tz G ts needs∧(needs.all (qj l o i))=true∧fq i o=true∧bN E O l.toArray (kG needs) o t:=
 ⟨[(⟨a,u,(some j)⟩:Nd),⟨a1,u1,(some j1)⟩],t,h,⟨hu,hu1,trivial⟩,(G4.1 hb).1,(G4.1 hb).2,k⟩
theorem U0(a:Nat)(j:Nat)(a1:Nat)(j1:Nat)(a2:Nat)(j2:Nat){u2:Ty}(h:ts[i]? =some t)(hu:w7 G ts ⟨a,u,(some j)⟩)(hu1:w7 G ts ⟨a1,u1,(some j1)⟩)(hu2:w7 G ts ⟨a2,u2,(some j2)⟩)(hb:([(⟨a,u,(some j)⟩:Nd),⟨a1,u1,(some j1)⟩,⟨a2,u2,(some j2)⟩].all (qj l o i)&&fq i o&&o.guard.isNone)=true)(k:cO E O [(a,u),(a1,u1),(a2,u2)] o t): ∃(needs:List Nd) (t:Ty),ts[i]? =some t∧tz G ts needs∧(needs.all (qj l o i))=true∧fq i o=true∧bN E O l.toArray (kG needs) o t:=
 ⟨[(⟨a,u,(some j)⟩:Nd),⟨a1,u1,(some j1)⟩,⟨a2,u2,(some j2)⟩],t,h,⟨hu,hu1,hu2,trivial⟩,(BR hb).1,(BR hb).2.1,ak (VC (BR hb).2.2) k⟩
theorem mB(a:Nat)(j:Nat)(a1:Nat)(j1:Nat)(a2:Nat)(j2:Nat){u2:Ty}(h:ts[i]? =some t)(hu:w7 G ts ⟨a,u,(some j)⟩)(hu1:w7 G ts ⟨a1,u1,(some j1)⟩)(hu2:w7 G ts ⟨a2,u2,(some j2)⟩)(hb:([(⟨a,u,(some j)⟩:Nd),⟨a1,u1,(some j1)⟩,⟨a2,u2,(some j2)⟩].all (qj l o i)&&fq i o)=true)(k:bN E O l.toArray [(a,u),(a1,u1),(a2,u2)] o t): ∃(needs:List Nd) (t:Ty),ts[i]? =some t∧tz G ts needs∧(needs.all (qj l o i))=true∧fq i o=true∧bN E O l.toArray (kG needs) o t:=
 ⟨[(⟨a,u,(some j)⟩:Nd),⟨a1,u1,(some j1)⟩,⟨a2,u2,(some j2)⟩],t,h,⟨hu,hu1,hu2,trivial⟩,(G4.1 hb).1,(G4.1 hb).2,k⟩
end

def XI{α:Type}(r:Rp α):Rp α where
 sz:=1
 agg:=false
 rc:=fun S cs x=> ∃v,cs=[v]∧(bF r x).p S v
 mono:=fun h ⟨v,e,k⟩=>⟨v,e,(bF r _).mono h k⟩
 len:=fun⟨_,e,_⟩=>by rw [e];rfl
 one:=fun⟨v,e,b,off,c,U,fr,h,_⟩ c' hc=>by rw [e]at hc;simp at hc;subst hc;rw [h];rfl
 sc:=fun _=>rfl
theorem PZ{x:α}{v:Value}:(tD (XI r) x).p S v↔(bF r x).p S v:=by
 constructor
 ·rintro⟨cs,rfl,w,rfl,h⟩;exact h
 ·intro h;exact⟨[v],rfl,v,rfl,h⟩
def NC{α:Type}(r:Rp α):Rp (Option α) where
 sz:=1
 agg:=false
 rc:=fun S cs o=> ∃v,cs=[v]∧match o with|none=>v= .pointer none|some x=>(bF r x).p S v
 mono:=fun{S S' cs o} h ⟨v,e,k⟩=>⟨v,e,by cases o with|none=>exact k|some x=>exact(bF r x).mono h k⟩
 len:=fun⟨_,e,_⟩=>by rw [e];rfl
 one:=fun{S cs o} ⟨v,e,k⟩ c' hc=>by
  rw [e]at hc;simp at hc;subst hc
  cases o with
  |none=>rw [show c' = .pointer none from k];rfl
  |some x=>obtain⟨b,off,c,U,fr,h,_⟩:=k;rw [h];rfl
 sc:=fun _=>rfl
theorem M0:aL N G (.const (.pointer none)) (tD (NC r) none):=fun _ _ _=>⟨[.pointer none],rfl,_,rfl,rfl⟩
theorem yY{x:α}{v:Value}:(tD (NC r) (some x)).p S v↔(bF r x).p S v:=by
 constructor
 ·rintro⟨cs,rfl,w,rfl,h⟩;exact h
 ·intro h;exact⟨[v],rfl,v,rfl,h⟩
theorem XW{x:α}{u:Option α}(h:aL N G o (tD (NC r) u))(e:u=some x):aL N G o (bF r x):=fun S a hf=>by
 subst e;exact yY.1 (h S a hf)

theorem VA{rd:Rp β}{x:α}{y:β}(h:(bx r T b x).p w S)(hs:jp w S)(cv: ∀cs,r.rc S cs x→rd.rc S cs y): ∃S1,SH.le S S1∧jp w S1∧(bF rd y).p S1 (aN b 0):=by
 obtain⟨hn,c,h2,h3⟩:=h
 have hle:SH.le S (S.set b (.cells c T (0,0))):=u7 fun q hq=>(by rw [hn]at hq;cases hq)
 have hsat:jp w (S.set b (.cells c T (0,0))):=hs.set h2 (tf _) fun q hq=>by rw [hn]at hq;cases hq
 have h4:=cv _ h3
 have hl:c.toList.length=rd.sz:=rd.len h4
 refine⟨_,hle,hsat,b,0,c,T,(0,0),rfl,mZ _ _ _,?_⟩
 rw [sa,vg (by omega)]
 exact rd.mono hle h4
variable{el:TypeId}{ys:List α}{γ:Type}
section
theorem C3{f:FuncId}{xs:List Operand}{ats:Array TypeId}{t:Ty}{rd:Rp β}{x:α}{y:β}(hm:bx r T b x∈O)(hc:au E.P f=true)(hs:bh E.P f ts t)(cv: ∀w S cs,ee E.base E.B w S O→r.rc S cs x→rd.rc S cs y)(hx: ∀(S S1:SH) (a:Act),di E.N S a G→SH.le S S1→(bF rd y).p S1 (aN b 0)→vO S1 ts (xs.map a.eval))(htf: ∀(S S' :SH) (v:Value),t.p S v→t.p S' v):
  cO E O G ⟨dst,.call ⟨.value (.func f),xs.toArray,ats⟩,ty,pos,after,g⟩ t:=fun a w S hS hO hF=>by
 have hr:(execOp a.eval ⟨dst,.call ⟨.value (.func f),xs.toArray,ats⟩,ty,pos,after,g⟩).run E.P w= .ok (.enter f (xs.map a.eval).toArray) w:=by
  simp [execOp,resolve,Act.eval,Deferred.ofValue,invoke,f7 hc]
 refine⟨fun c h=>(by cases h),?_⟩
 rw [hr]
 obtain⟨S1,k1,k2,k3⟩:=VA (ee.mem hO _ hm).1 hS (fun cs h=>cv w S cs hO h)
 exact(hs w S1 _ k2 (hx S S1 a hF k1 k3)).mono fun e w' ⟨v,S',he,h1,h2,h3⟩=>⟨v,he,v,S,rfl,
  ⟨h1.os,h1.tape,h1.output,h1.drawn,h1.size,h1.heap,SH.le_refl _,fun _ _ _=>rfl⟩,hS.same fun b o k=>h1.heap b (hS.lt k) (fun hb=>hb),htf S' S v h3⟩
theorem Kx{G:mr}{x:α}(h:aL N G o (tV (aN b 0)))(hf:di N S a G)(hk:(bF r x).p S1 (aN b 0)):(bF r x).p S1 (a.eval o):=by
 rw [show a.eval o=aN b 0 from h S a hf];exact hk

def pE(t:Nat→Ty):Ty where
 p:=fun S v=> ∀b,(t b).p S v
 mono:=fun h k b=>(t b).mono h (k b)
theorem Da{t:Nat→Ty}(h: ∀b,aL N G o (t b)):aL N G o (pE t):=fun S a hf b=>h b S a hf
theorem VE{t:Nat→Ty}(b:Nat)(h:aL N G o (pE t)):aL N G o (t b):=fun S a hf=>h S a hf b

theorem sY{r' :Rp γ}{hs hs' :HL}{off:Nat}{x:α}{x' :γ}{y:β}(h:pe r r' off q x y x')(hk:UO hs off q.sz none hs')(hoff:Nat.ble (off+q.sz) r.sz=true):pe (rH r hs) (rH r' hs') off q x y x' :=fun S cs ds h1 h2=>by
 refine⟨h S cs ds h1.1 h2,fun p hp=>?_⟩
 rcases hk.all p hp with⟨e,_⟩|⟨g1,g2⟩
 ·cases e
 ·have hl:=r.len h1.1
  rw [um (q.len h2) (by have:=qc hoff;omega) g2]
  exact h1.2 _ (sQ g1)
theorem Sb{r' :Rp γ}{x:α}{x' :γ}{hs:HL}{cs:List Value}(h:(rH r hs).rc S cs x)(k:r.rc S cs x→r'.rc S cs x'):(rH r' hs).rc S cs x' :=⟨k h.1,h.2⟩

theorem KF{q:Rp α}(hq:q.sz=1){cs:List Value}{m:Nat}(h:si q S cs xs)(hm:m≤xs.length):si q S (cs.take m) (xs.take m)∧si q S (cs.drop m) (xs.drop m):=by
 have:=pV (xs:=xs.take m) (ys:=xs.drop m) (by rw [sS];exact h)
 rwa [Bx,yK hm,hq,Nat.mul_one]at this
def tu{α:Type}(xs ys:List α):List α:=ys.take xs.length++xs.drop (min ys.length xs.length)
theorem GK:(tu xs ys).length=xs.length:=by
 unfold tu
 simp
 omega
theorem HM{p:Operand}(hu:E.P.underlying T=some (.array n el))(hs:((E.P.info? el).map (·.size)).isSome=true)(hp:aL E.N G p (tV (aN b 0))):
  cO E O G ⟨dst,.slice T p none none none,ty,pos,after,g⟩ (tV (.slice (some ⟨b,0,none⟩) n n)):= .of_pure fun a w S _ _ hf=>by
 have h1:a.eval p=aN b 0:=hp S a hf
 cases hq:E.P.info? el with
 |none=>simp [hq]at hs
 |some i=>exact⟨_,by simp [execOp,h1,aN,Instr.sliceAt,jr hu,Instr.sureAddr,Instr.sliceBounds,sizeOf,typeInfo,hq,Result.andThen];intro _;rfl,rfl⟩
end
variable{lo:Int}{rest:List Oper}
section
variable{c:Code}
theorem f9{y:α}{u:Option α}{x:Operand}(hx:aL E.N G x (tD (NC r) u))(e:u=some y):cO E O G ⟨dst,.nilCheck x,ty,pos,after,g⟩ (bF r y):=KH (XW hx e)
theorem St.ptAt{x:α}{k:Nat}(h:St E O G a w S)(hk:look G k=some (bF r x)):St E O ((k,tD (NC r) (some x))::G) a w S:=h.cons (yY.2 (h.facts.at_ k _ hk))
theorem Sv{x:α}(k:Nat)(hk:look G k=some (bF r x))(h:RG E ops Q rest O ((k,tD (NC r) (some x))::G)):RG E ops Q rest O G:=fun a w S st=>h a w S (st.ptAt hk)
theorem SF{e:Exit}{x:α}(k:Nat)(hk:look G k=some (bF r x))(h:AT E Q e O ((k,tD (NC r) (some x))::G)):AT E Q e O G:=fun a w S st=>h a w S (st.ptAt hk)
theorem Nc{q:Rp α}{x:Operand}{dT sT:TypeId}(hq:q.sz=1)(hu:E.P.underlying dT=some (.slice el))(hs:(E.P.info? el).map (·.size)=some 1)(hx:aL E.N G x (tV (.slice (some ⟨b,0,none⟩) n n)))(hy: ∀a w S,jp w S→ee E.base E.B w S (bx (pH q n) T b xs::O)→di E.N S a G→ ∃S1,jp w S1∧(tD (eX q) ys).p S1 (a.eval y)∧ ∀cs zs,si q S1 cs zs→si q S cs (zs:List α)):
  EffOK E (bx (pH q n) T b xs::O) G ⟨some d,.call ⟨.builtin .copy,#[x,y],#[dT,sT]⟩,ty,pos,after,g⟩ (fun _=>bx (pH q n) T b (tu xs ys)::O) (fun _=>tD (rI .i64) ((min ys.length n:Nat):Int)):=fun a w S hs0 ho hf hb=>by
 have h1:a.eval x= .slice (some ⟨b,0,none⟩) n n:=hx S a hf
 obtain⟨S1,hS1,hy1,hback⟩:=hy a w S hs0 ho hf
 obtain⟨ad,cap,h2,_,_,h3⟩:=lS.1 hy1
 obtain⟨⟨hno,cur,h5,h6,h7⟩,_⟩:=ho.1
 have hcl:cur.toList.length=n:=by rw [lW h7,hq,h6,Nat.mul_one]
 have hm:min ys.length n≤ys.length:=Nat.min_le_left _ _
 obtain⟨cs,hcs,hrun,hlen⟩: ∃cs,si q S cs (ys.take (min ys.length n))∧(Builtin.copy_ #[dT,sT] ty #[.slice (some ⟨b,0,none⟩) n n,a.eval y]).run E.P w= .ok (goInt cs.length) (w.setRow b (cs++cur.toList.drop cs.length).toArray)∧cs.length=min ys.length n:=by
  rw [h2]
  rcases h3 with rfl|⟨b',off,c,T',fr,rfl,e2,e3⟩
  ·refine⟨[],by simp [si],?_,by simp⟩
   cases hel:E.P.info? el with
   |none=>simp [hel]at hs
   |some i=>
    have hi:i.size=1:=by simpa [hel] using hs
    have hself:w.setRow b (([]:List Value)++cur.toList.drop ([]:List Value).length).toArray=w:=by simpa using setRow_self w b cur T (0,0) h5
    rw [hself]
    cases ad with
    |none=>simp [Builtin.copy_,jr hu,Builtin.lenOf,Builtin.firstCells,sizeOf,typeInfo,hel,hi,storeCells]
    |some p=>
     have hl:=run_loadCells_list (P:=E.P) w p [] (fun j v hv=>by simp at hv)
     simp only [xv]at hl
     simp [Builtin.copy_,jr hu,Builtin.lenOf,Builtin.firstCells,sizeOf,typeInfo,hel,hi,storeCells,hl]
  ·obtain⟨c',h8,h9⟩:=hS1.part e2 (lW e3)
   obtain⟨d1,d2⟩:=KF hq e3 hm
   rw [Bv,hq,Nat.mul_one,yK hm]at d1
   have hl:((c.toList.drop off).take (min ys.length n)).length=min ys.length n:=by
    rw [lW d1,hq,Nat.mul_one,Bx,yK hm]
   have hcs:cur.size=n:=by simpa using hcl
   refine⟨_,hback _ _ d1,?_,hl⟩
   have:=run_copy_row (P:=E.P) w dT sT ty el b 0 n n ⟨b',off,none⟩ ys.length cap cur T ((c.toList.drop off).take (min ys.length n)) hu hs h5 hl (fun j v hv=>?_) (by rw [hl];omega) (zd d1)
   ·simpa using this
   ·have hj:j<min ys.length n:=by rw [←hl];exact(pc.1 hv).1
    have hcell:w.cell? ⟨b',off+j,none⟩=c'[off+j]? :=xq h8 _
    rw [iV]
    show w.cell? ⟨b',off+j,none⟩=_
    rw [hcell]
    have h10:((c'.toList.drop off).take (ys.length*q.sz))[j]? =((c.toList.drop off).take (ys.length*q.sz))[j]? :=by rw [h9]
    rw [Ac (by rw [hq];omega),Ac (by rw [hq];omega),wh,wh]at h10
    rw [Ac hj,wh]at hv
    rw [←hv,←Kn,h10]
 have hx' :(execOp a.eval ⟨some d,.call ⟨.builtin .copy,#[x,y],#[dT,sT]⟩,ty,pos,after,g⟩).run E.P w= .ok (.value (goInt cs.length)) (w.setRow b (cs++cur.toList.drop cs.length).toArray):=by
  simp [execOp,resolve,h1,invoke,builtin,hrun]
 refine⟨fun c h=>(by cases h),?_⟩
 rw [hx']
 have hle:min ys.length n≤xs.length:=by rw [h6];exact Nat.min_le_right _ _
 obtain⟨_,d4⟩:=KF hq h7 hle
 have hnew:(pH q n).rc S (cs++cur.toList.drop cs.length) (tu xs ys):=by
  refine⟨by rw [GK];exact h6,?_⟩
  unfold tu
  rw [h6,hlen]
  have e1:ys.take n=ys.take (min ys.length n):=by
   rw [List.take_eq_take_iff];omega
  rw [e1]
  exact s9 hcs d4
 obtain⟨g1,g2,g3⟩:=nI (O:=O) hs0 (w' :=w.setRow b (cs++cur.toList.drop cs.length).toArray) (bx (pH q n) T b xs) (bx (pH q n) T b (tu xs ys)) ho (fun _=>sU) (fun _=>sU) ⟨rfl,rfl,rfl,by simp [World.setRow],gB _⟩ (fun k hk=>setRow_other w b k _ hk) ⟨hno,_,setRow_heap w b cur _ T _ h5,by simpa using hnew⟩ hno
 refine⟨_,S,wk,rfl,g1.more fun k hk=>⟨_,oc ..,hk⟩,g2,g3,?_⟩
 rw [hlen]
 exact fg.2 rfl
theorem LY(hs:dw xs lo hi=some ys)(h:zM mm r U l cap xs w S)(hS:jp w S): ∃S1,jp w S1∧(tD (eX r) ys).p S1 (nR r.sz l cap lo.toNat ys.length):=by
 obtain⟨S1,_,k2,hd⟩:=XU h hS
 refine⟨S1,k2,?_⟩
 obtain⟨l',m,rfl,rfl,h7,h8,rfl⟩:=fT hs
 obtain⟨ad,c,h1,h2,h3,h4⟩:=lS.1 hd
 have hlen:((xs.take m).drop l').length=m-l' :=by simp;omega
 cases l with
 |none=>
  obtain⟨cells,g1,_⟩:=h
  have hx:xs=[]:=uL g1.1
  subst hx
  have e:((([]:List α).take m).drop l')=[]:=by simp
  rw [e]
  exact FQ
 |some b=>
  have e1:Value.slice (some ⟨b,0,none⟩) xs.length cap= .slice ad xs.length c:=h1
  injection e1 with e2 _ e3
  subst e2
  subst e3
  have h5:=yg h4 h7 h8 h2
  refine lS.2 ⟨_,cap-l',?_,by omega,by omega,h5⟩
  unfold nR
  simp only [Ab,hlen,Ch,iV,pj]
  split<;>rfl
theorem GH{xs ys zs:List Int}{x:Operand}{dT sT:TypeId}(hm:md mm (rI k) U l cap zs∈bx (pH (rI k) n) T b xs::O)(hsl:dw zs lo hi=some ys)(hu:E.P.underlying dT=some (.slice el))(hs:(E.P.info? el).map (·.size)=some 1)(hx:aL E.N G x (tV (.slice (some ⟨b,0,none⟩) n n)))(hy:aL E.N G y (tV (nR 1 l cap lo.toNat ys.length))):
  EffOK E (bx (pH (rI k) n) T b xs::O) G ⟨some d,.call ⟨.builtin .copy,#[x,y],#[dT,sT]⟩,ty,pos,after,g⟩ (fun _=>bx (pH (rI k) n) T b (tu xs ys)::O) (fun _=>tD (rI .i64) ((min ys.length n:Nat):Int)):=
 Nc rfl hu hs hx fun a w S hs0 ho hf=>by
  obtain⟨S1,h1,h2⟩:=LY hsl (ee.mem ho _ hm).1 hs0
  refine⟨S1,h1,?_,fun cs zs h=>by rw [wF h];exact(wF h)▸HC (fun h=>h) h⟩
  rw [show a.eval y=nR 1 l cap lo.toNat ys.length from hy S a hf]
  exact h2
def N3{α:Type}(r:Rp α)(y:α)(b:Nat)(t:Ty):Ty where
 p:=fun S v=> ∀S1,SH.le S S1→(bF r y).p S1 (aN b 0)→t.p S1 v
 mono:=fun h k S1 h1=>k S1 (SH.le_trans h h1)
theorem PX{x:Operand}{y:α}{t:Ty}(h:aL N G x (N3 r y b t))(hf:di N S a G)(hle:SH.le S S1)(hk:(bF r y).p S1 (aN b 0)):t.p S1 (a.eval x):=h S a hf S1 hle hk
theorem Ga{r:Rp γ}{z:γ}{args:α→List Ty}{res:β→Ty}{f:α→Option β}{fid:FuncId}{caps:List Operand}{cts:List Ty}(hc:au E.P fid=true)(hcap: ∀(S S1:SH) (a:Act),di E.N S a G→SH.le S S1→(bF r z).p S1 (aN b 0)→vO S1 cts (caps.map a.eval))(hs: ∀x y,f x=some y→bh E.P fid (args x++cts) (res y)):cO E O G ⟨dst,.makeFunc (.func fid) #[] caps.toArray,ty,pos,after,g⟩ (N3 r z b (iB E.P args res f)):=
 .of_pure fun a w S _ _ hf=>by
  refine⟨.func (.func fid) #[] (caps.map a.eval).toArray,by simp [execOp,Instr.makeFunc],fun S1 h1 hk=>⟨fid,_,rfl,hc,fun x y h w' S' vs hle hsat hv=>?_⟩⟩
  have hcv:=(hcap S S1 a hf h1 hk).mono hle
  simpa using hs x y h w' S' _ hsat (hv.append hcv)
theorem J8{x:Operand}{y:α}(h:aL N G x (bF (rT (tV (aN b 0))) ()))(hf:di N S a G)(hle:SH.le S S1)(hk:(bF r y).p S1 (aN b 0)):(bF (XI r) y).p S1 (a.eval x):=by
 obtain⟨b',off,c,E',fr,h1,h2,v,h3,_,h4⟩:=(bF (rT (tV (aN b 0))) ()).mono hle (h S a hf)
 have h4' :v=aN b 0:=h4
 subst h4'
 exact⟨b',off,c,E',fr,h1,h2,_,h3,hk⟩
theorem Kt(ti:TI P T sz bytes agg z):(P.info? T).map (·.size)=some sz:=by
 obtain⟨i,_,hi,hs,_⟩:=ti.get
 simp [hi,hs]
theorem PY(ti:TI P T sz bytes agg z):((P.info? T).map (·.size)).isSome=true:=by rw [Kt ti];rfl
def Qg{α:Type}:Rp α where
 sz:=1
 agg:=false
 rc:=fun _ cs _=> ∃v,cs=[v]∧v.oneCell' =true
 mono:=fun _ h=>h
 len:=fun⟨v,h,_⟩=>by rw [h];rfl
 one:=fun⟨v,h,k⟩ c hc=>by rw [h]at hc;simp at hc;subst hc;exact k
 sc:=fun _=>rfl
theorem XY{x:Operand}{u:Value}{y:α}(h:aL N G x (tV u))(ho:u.oneCell' =true):aL N G x (tD Qg y):=fun S a hf=>by
 have h1:a.eval x=u:=h S a hf
 rw [h1]
 exact⟨[u],rfl,u,rfl,ho⟩
theorem Oj{c:Nat}:(aD l c n).oneCell' =true:=by cases l<;>rfl
theorem Ki{j:Int}{o:Oper}{post:OI→List OE}{t:OI→Ty}(h:dw xs 0 j=some ys)(k:EffOK E (cY r U l cap ys::O) G o post t):EffOK E (cY r U l cap xs::O) G o post t:=fun a w S hs ho hf hb=>by
 have h1:ee E.base E.B w S (cY r U l cap ys::O):=⟨⟨LF h ho.1.1,ho.1.2⟩,ho.2.1,ho.2.2⟩
 refine nJ (fun a' w' ⟨v,S',x,g1,g2,g3,g4,g5⟩=>⟨v,S',x,g1,g2.more fun b ⟨f,hf,hb⟩=>?_,g3,g4,g5⟩) (k a w S hs h1 hf hb)
 rcases kp.1 hf with rfl|hf
 ·exact⟨_,oc ..,hb⟩
 ·exact⟨f,oS _ hf,hb⟩
theorem GY(hm:md mm r T l cap xs∈O)(hs:dw xs lo hi=some ys)(h:(l=none→ys.length=0)∧ys.length≤maxLen→CG E Q c O G):CG E Q c O G:=fun a w S st=>by
 refine h ?_ a w S st
 obtain⟨cells,h1,_⟩:=(st.own.mem _ hm).1
 obtain⟨l',m,_,_,_,h8,rfl⟩:=fT hs
 have hlen:((xs.take m).drop l').length≤xs.length:=by simp;omega
 cases l with
 |none=>have:=h1.1;exact⟨fun _=>by omega,by omega⟩
 |some b=>obtain⟨cur,_,g2,g3,_⟩:=h1;exact⟨fun h=>(by cases h),by omega⟩
theorem GJ{l:List α}{e:α}(h:xs.drop i=e::l):(i:Int)<(xs.length:Int):=by
 have:=congrArg List.length h
 simp at this
 omega
theorem Vz{k N:Nat}(h:N-i=k+1):(i:Int)<(N:Int):=by omega
theorem pn{x ix:Operand}{y:α}{i:Int}(ht:E.P.underlying t=some (.slice e))(ti:TI E.P e sz bytes agg z)(hm:md mm r U l cap xs∈O)(hx:aL E.N G x (tV (aD l cap n)))(hi:aL E.N G ix (tD (rI k) i))(hy:dC xs i=some y)(hlt:i<(n:Int)):
  cO E O G ⟨dst,.indexAddr t x ix,ty,pos,after,g⟩ (tV (kz l (i.toNat*sz+0))):=
 .of_pure fun a w S _ ho hf=>by
  have h1:a.eval x=aD l cap n:=hx S a hf
  have h3:a.eval ix= .int k i:=fg.1 (hi S a hf)
  obtain⟨h0,hy'⟩:=lw hy
  obtain⟨b,cur,rfl,_⟩:=qA (ho.mem _ hm).1 hy'
  refine⟨_,?_,rfl⟩
  have hc:0≤i∧i<(n:Int):=⟨h0,hlt⟩
  simp [execOp,h1,h3,aD,Instr.indexAt,asIntOf,jr ht,hc,ti.sizeOf,iV,kz,aN]
theorem XX{b:Bool}:aL N G (.const (.bool b)) (tD rB b):=hB
theorem Iz(b:Bool){l:List Oper}(h1:b=true→RG E ops Q l O G)(h2:b=false→RG E ops Q l O G):RG E ops Q l O G:=by
 cases b with
 |true=>exact h1 rfl
 |false=>exact h2 rfl
theorem zP{d:Option Tmp}{pol b:Bool}(hj:(ops[j]?).bind (·.dst)=some gs)(hgs:Nat.blt gs E.N.n=true)(hb:look G gs=some (tD rB b))(e:b=pol)(k:RG E ops Q (⟨d,op,ty,pos,after,none⟩::rest) O G):
  RG E ops Q (⟨d,op,ty,pos,after,some (j,pol)⟩::rest) O G:=fun a w S st=>by
 have hgs' :gs<a.tmps.size:=by rw [st.facts.size];simpa [uJ] using hgs
 have hw:=vk (o:=⟨d,op,ty,pos,after,some (j,pol)⟩) rfl hj hgs' (p7 hb S a st.facts)
 have h1:=k a w S st
 unfold wpListIn at h1 ⊢
 rw [hw,e]
 rw [bQ (show Region.wanted ⟨d,op,ty,pos,after,none⟩ (yielded ops a.tmps)=true from rfl)]at h1
 rw [bQ (show(true&&(pol==pol))=true from by simp)]
 exact h1
theorem pN{pol b:Bool}(hj:(ops[j]?).bind (·.dst)=some gs)(hgs:Nat.blt gs E.N.n=true)(hb:look G gs=some (tD rB b))(e:b= !pol)(hd:Nat.blt d E.N.n=true)(k:RG E ops Q rest O ((d,BH)::G)):
  RG E ops Q (⟨some d,op,ty,pos,after,some (j,pol)⟩::rest) O G:=fun a w S st=>by
 have hgs' :gs<a.tmps.size:=by rw [st.facts.size];simpa [uJ] using hgs
 have hw:=vk (o:=⟨some d,op,ty,pos,after,some (j,pol)⟩) rfl hj hgs' (p7 hb S a st.facts)
 refine wpListIn_step fun K hK=>?_
 rw [hw,e,bI (by cases pol<;>simp)]
 exact⟨fun _ _=>trivial,hK _ _ (k _ _ S (st.step (hY _ _ _) st.sat hd trivial))⟩
theorem Aw{c x:Operand}{b:Bool}{t:Ty}(hc:aL E.N G c (tD rB b))(e:b=true)(hx:aL E.N G x t):cO E O G ⟨dst,.pick c x y,ty,pos,after,g⟩ t:=xi hc (fun _=>hx) (fun h=>by rw [e]at h;cases h)
theorem EW{c x:Operand}{b:Bool}{t:Ty}(hc:aL E.N G c (tD rB b))(e:b=false)(hy:aL E.N G y t):cO E O G ⟨dst,.pick c x y,ty,pos,after,g⟩ t:=xi hc (fun h=>by rw [e]at h;cases h) (fun _=>hy)
end
theorem Ak(P:Program)(fn:Func)(h' i j k:Nat)(h:fn.results= #[.tmp h',.tmp i,.tmp j,.tmp k])(tmps:Array Value)(w:World):(results fn tmps).run P w= .ok (.tuple #[tmps.getD h' undef,tmps.getD i undef,tmps.getD j undef,tmps.getD k undef]) w:=by
 simp [results,h]
theorem xr{N:Nat}{B:Nat→Prop}{w0:World}{S0:SH}{fn:Func}{m k:Nat}{s t v:Ty}(hr:fn.results= #[.tmp m,.tmp i,.tmp j,.tmp k])(hm:look G m=some s)(hi:look G i=some t)(hj:look G j=some u)(hk:look G k=some v):
  AT ⟨P,⟨N,[]⟩,B,w0,S0,none⟩ (bodyPost P fn (GG ⟨P,⟨N,[]⟩,B,w0,S0,none⟩ (tT [s,t,u,v]))) .ret O G:=fun _ _ S st=>
 ⟨st.facts.defers,_,Ak P fn m i j k hr _ _,_,S,rfl,st.ext,st.sat,[_,_,_,_],rfl,st.facts.at_ m s hm,st.facts.at_ i t hi,st.facts.at_ j u hj,st.facts.at_ k v hk,trivial⟩

structure SB{κ:Type} [DecidableEq κ](P:Program)(kt:TypeId)(kv:κ→Value):Prop where
 chk: ∀e w k,(Instr.checkKey e 10000 kt (kv k)).run P w= .ok () w
 eql: ∀w a b,(Op.equal kt (kv a) (kv b)).run P w= .ok (decide (a=b)) w
 wide:(match P.underlying kt with|some (.array _ _)|some (.struct _)=>true|_=>false)=true
 same: ∀k,Instr.sameBits 10000 (kv k) (kv k)=true
 inj: ∀a b,kv a=kv b→a=b
def MQ(p:Int×Int):Value:= .agg #[.int .i64 p.1,.int .i64 p.2]
def k2(l:List Int):Int×Int:=(l.getD 0 0,l.getD 1 0)
theorem Az{kt el:Nat}(h:P.underlying kt=some (.array 2 el))(he:P.underlying el=some (.int .i64))(ti:TI P el sz bytes agg z)(hsz:Nat.beq sz 1=true)(hq:PE P kt (pH (rI .i64) 2)):SB P kt MQ where
 chk:=fun e w k=>by
  obtain⟨i,zv,hi,hs,_⟩:=ti.get
  have h1:sz=1:=qd hsz
  have ha:(isAgg el).run P w= .ok false w:=by
   simp [isAgg,jr he,Result.andThen]
  have h3: ∀(j:Nat) (x:Int) (cs:Array Value),cs[j]? =some (.int .i64 x)→(part el cs (j*i.size)).run P w= .ok (.int .i64 x) w:=fun j x cs hj=>by
   simp [part,ha,Result.andThen,hs,h1,hj]
  have h4: ∀x:Int,(Instr.checkKey e 9999 el (.int .i64 x)).run P w= .ok () w:=fun x=>by
   show(Instr.checkKey e (9998+1) el (.int .i64 x)).run P w= .ok () w
   unfold Instr.checkKey
   simp only [r0,jr he,sq]
   rfl
  have e1:=h3 0 k.1 #[.int .i64 k.1,.int .i64 k.2] rfl
  have e2:=h3 1 k.2 #[.int .i64 k.1,.int .i64 k.2] rfl
  show(Instr.checkKey e (9999+1) kt (MQ k)).run P w= .ok () w
  unfold Instr.checkKey
  simp only [MQ,r0,jr h,sq,Std.Legacy.Range.forIn_eq_forIn_range',Std.Legacy.Range.size,Nat.sub_zero,Nat.add_sub_cancel,Nat.div_one,List.range'_succ,List.range'_zero,List.forIn_cons,List.forIn_nil,sizeOf,typeInfo,hi,AS,Nat.zero_mul,pj,Nat.one_mul]
  simp only [Nat.zero_mul,Nat.one_mul]at e1 e2
  simp [e1,e2,h4,Result.andThen,hi]
 eql:=fun w a b=>by
  have:=hq.run (fun _=>none) [.int .i64 a.1,.int .i64 a.2] [.int .i64 b.1,.int .i64 b.2] [a.1,a.2] [b.1,b.2] 9980 w ⟨rfl,[_],[_],rfl,rfl,[_],[],rfl,rfl,rfl⟩ ⟨rfl,[_],[_],rfl,rfl,[_],[],rfl,rfl,rfl⟩
  have e1:decide (([a.1,a.2]:List Int)=[b.1,b.2])=decide (a=b):=by
   obtain⟨a1,a2⟩:=a;obtain⟨b1,b2⟩:=b;simp
  rw [e1]at this
  show(Op.equalIn (9980+20) kt (MQ a) (MQ b)).run P w=_
  exact this
 wide:=by rw [h]
 same:=fun k=>by
  show Instr.sameBits (9999+1) (MQ k) (MQ k)=true
  unfold Instr.sameBits MQ
  simp only [List.zip_cons_cons,List.zip_nil_left,yI,List.all_nil]
  unfold Instr.sameBits
  simp
 inj:=fun a b h=>by
  obtain⟨a1,a2⟩:=a;obtain⟨b1,b2⟩:=b
  simpa [MQ] using h
section
variable{κ:Type} [DecidableEq κ]{γ:β→Ty}{kv:κ→Value}{k:κ}{kt:TypeId}
theorem JQ{w:World}{S:SH}{k:κ}(hk:SB P kt kv): ∀{es:List MapEntry} {m:List (κ×β)} (i:Nat),uk γ kv S es m→
  ∃u,(Instr.findAsking kt (kv k) es i).run P w= .ok u w∧((u=none∧(∀x∈es,x.key≠kv k)∧rW m k=none)∨ ∃(j:Nat) (e:MapEntry) (y:β),u=some (i+j,e.val)∧es[j]? =some e∧e.key=kv k∧rW m k=some y∧(γ y).p S e.val)
 |[],[],i,_=>⟨none,by simp [Instr.findAsking],.inl ⟨rfl,fun x hx=>(by cases hx),rfl⟩⟩
 |e::es,q::m,i,⟨h1,h2,h3,h4⟩=>by
  by_cases hq:k=q.1
  ·subst hq
   refine⟨some (i,e.val),?_,.inr ⟨0,e,q.2,rfl,rfl,h1,by unfold rW;rw [bQ rfl],h2⟩⟩
   unfold Instr.findAsking
   simp [h1,hk.eql,Result.andThen]
  ·obtain⟨u,g1,g2⟩:=JQ hk (k:=k) (w:=w) (i+1) h4
   refine⟨u,?_,?_⟩
   ·unfold Instr.findAsking
    simp [h1,hk.eql,hq,Result.andThen,g1]
   ·have hm:rW (q::m) k=rW m k:=by conv=>lhs;unfold rW;rw [bI (fun e=>hq e.symm)]
    rw [hm]
    rcases g2 with⟨e1,e2,e3⟩|⟨j,e',y,e1,e2,e3,e4,e5⟩
    ·refine .inl ⟨e1,fun x hx=>?_,e3⟩
     rcases kp.1 hx with rfl|hx
     ·rw [h1];exact fun e=>hq (hk.inj _ _ e).symm
     ·exact e2 x hx
    ·exact .inr ⟨j+1,e',y,by rw [e1];congr 2;omega,by simpa using e2,e3,e4,e5⟩
theorem KO{q k:κ}{y:β}(hk:q≠k): ∀(m:List (κ×β)),(∀p∈m,p.1≠q)→ ∀p∈jS m k y,p.1≠q:=by
 intro m
 induction m with
 |nil=>intro _ p hp;rw [AW.1 hp];exact fun e=>hk e.symm
 |cons p0 m ih=>
  intro hm p hp
  unfold jS at hp
  split at hp
  ·rcases kp.1 hp with rfl|hp
   ·exact fun e=>hk e.symm
   ·exact hm p (oS _ hp)
  ·rcases kp.1 hp with rfl|hp
   ·exact hm _ (oc ..)
   ·exact ih (fun p hp=>hm p (oS _ hp)) p hp
theorem Dq(hinj: ∀a b,kv a=kv b→a=b){y:β}{v:Value}{born:Nat}(hv:(γ y).p S v): ∀{es:List MapEntry} {m:List (κ×β)},uk γ kv S es m→(∀x∈es,x.key≠kv k)→uk γ kv S (es++[⟨kv k,v,born⟩]) (jS m k y)
 |[],[],_,_=>⟨rfl,hv,fun _ h=>(by cases h),trivial⟩
 |e::es,q::m,⟨h1,h2,h3,h4⟩,hn=>by
  have hq:q.1≠k:=fun e' =>hn e (oc ..) (by rw [h1,e'])
  have hm:jS (q::m) k y=q::jS m k y:=by conv=>lhs;unfold jS;rw [bI hq]
  rw [hm]
  exact⟨h1,h2,KO hq m h3,Dq hinj hv h4 fun x hx=>hn x (oS _ hx)⟩
theorem Fk(hinj: ∀a b,kv a=kv b→a=b){y:β}{v:Value}(hv:(γ y).p S v): ∀{es:List MapEntry} {m:List (κ×β)},uk γ kv S es m→ ∀j e,es[j]? =some e→e.key=kv k→uk γ kv S (es.modify j fun e=>{e with key:=kv k,val:=v}) (jS m k y)
 |[],[],_,j,e,he,_=>by cases he
 |e0::es,q::m,⟨h1,h2,h3,h4⟩,j,e,he,hek=>by
  cases j with
  |zero=>
   have he' :e0=e:=od he
   subst he'
   have hq:q.1=k:=hinj _ _ (by rw [←h1,hek])
   have hm:jS (q::m) k y=(k,y)::m:=by conv=>lhs;unfold jS;rw [bQ hq]
   rw [hm,List.modify_zero_cons]
   exact⟨rfl,hv,fun p hp=>by rw [←hq];exact h3 p hp,h4⟩
  |succ j=>
   have he' :es[j]? =some e:=by simpa using he
   obtain⟨y',hy'⟩: ∃q' ∈m,q'.1=k:=by
    have hmem: ∀{es:List MapEntry} {m:List (κ×β)},uk γ kv S es m→ ∀(j:Nat) (e:MapEntry),es[j]? =some e→e.key=kv k→ ∃q' ∈m,q'.1=k:=by
     intro es
     induction es with
     |nil=>intro m _ j e he _;simp at he
     |cons e1 es ih=>
      intro m hm j e he hek
      cases m with
      |nil=>exact hm.elim
      |cons q1 m=>
       obtain⟨g1,_,_,g4⟩:=hm
       cases j with
       |zero=>
        have e2:e1=e:=od he
        subst e2
        exact⟨q1,oc ..,hinj _ _ (by rw [←g1,hek])⟩
       |succ j=>
        obtain⟨q',a1,a2⟩:=ih g4 j e (by simpa using he) hek
        exact⟨q',oS _ a1,a2⟩
    exact hmem h4 j e he' hek
   have hq:q.1≠k:=fun e' =>h3 y' hy'.1 (by rw [hy'.2,e'])
   have hm:jS (q::m) k y=q::jS m k y:=by conv=>lhs;unfold jS;rw [bI hq]
   rw [hm,Be]
   exact⟨h1,h2,KO hq m h3,Fk hinj hv h4 j e he' hek⟩
def HV(γ:β→Ty)(kv:κ→Value)(b:Nat)(m:List (κ×β)):OE where
 fp:=fun j=>j=b
 p:=fun w S=>S b=none∧ ∃es clock,w.heap[b]? =some (.map es clock)∧uk γ kv S es.toList m
 here:=by
  intro w S ⟨_,es,clock,h3,_⟩ j hj
  subst hj
  exact(sr.1 h3).1
 kept:=by
  intro C w w' S S' ⟨h1,es,clock,h3,h4⟩ k hC
  have hlt:=(sr.1 h3).1
  exact⟨by rw [k.old b hlt (hC b rfl)];exact h1,es,clock,by rw [k.heap b hlt (hC b rfl)];exact h3,vK k.keep h4⟩
end
section
variable{κ:Type} [DecidableEq κ]{γ:β→Ty}{kv:κ→Value}{m:List (κ×β)}{k:κ}{kt et:TypeId}{x i v:Operand}{dst:Option Nat}
theorem Oz{x:Operand}{l:List Int}(h:aL N G x (tD (pH (rI .i64) 2) l)):Fx N G x (MQ (k2 l)):=fun S a hf=>by
 obtain⟨cs,e,h1,h2⟩:=h S a hf
 rw [e]
 match l,h1,h2 with
 |[p,q],_,h2=>
  have:=wF h2
  rw [this];rfl
theorem IC(γ:β→Ty)(kv:κ→Value)(hd:Nat.blt d E.N.n=true)(k: ∀b,RG E ops Q rest (HV γ kv b []::O) ((d,tV (pI b))::G)):
  RG E ops Q (⟨some d,.makeMap t none,ty,pos,after,none⟩::rest) O G:= .of rfl fun a w S st=>by
 obtain⟨he,hs',hno⟩:=fS (w:=w) (.map #[] 0) st.sat
 have hrun:(execOp a.eval ⟨some d,.makeMap t none,ty,pos,after,none⟩).run E.P w= .ok (.value (pI w.heap.size)) (w.alloc (.map #[] 0)):=by
  simp [execOp,Instr.makeMap,pI]
 refine⟨fun c h=>(by cases h),?_⟩
 rw [hrun]
 exact k w.heap.size _ _ S ⟨st.ext.step0 he,hs',qD st.own he ⟨hno,#[],0,wp w _,trivial⟩ (fun b hb=>yQ hb.symm) st.base_le,st.facts.put hd rfl⟩
theorem Jx{z:β}{zv:Value}(hm:E.P.underlying t=some (.map kt et))(hk:SB E.P kt kv)(hz:ZV E.P et zv)(hzt: ∀S,(γ z).p S zv)(hmem:HV γ kv b m∈O)(hx:aL E.N G x (tV (pI b)))(hi:Fx E.N G i (kv k)):
  cO E O G ⟨dst,.lookup t x i false,ty,pos,after,g⟩ (γ ((rW m k).getD z)):= .of_pure fun a w S hs ho hf=>by
 obtain⟨⟨_,es,clock,h3,h4⟩,_⟩:=ee.mem ho _ hmem
 have h1:a.eval x=pI b:=hx S a hf
 have h2:a.eval i=kv k:=hi S a hf
 obtain⟨u,g1,g2⟩:=JQ hk (k:=k) (w:=w) 0 h4
 have hfk:(Instr.findKey kt (kv k) es.toList).run E.P w= .ok u w:=by rw [run_findKey_eq w hk.wide];exact g1
 rcases g2 with⟨rfl,_,g3⟩|⟨j,e,y,rfl,_,_,g3,g4⟩
 ·refine⟨zv,?_,by rw [g3];exact hzt S⟩
  simp [execOp,h1,h2,Instr.lookup,pI,jr hm,G6 h3,hk.chk,hfk,hz.run,Result.andThen]
 ·refine⟨e.val,?_,by rw [g3];exact g4⟩
  simp [execOp,h1,h2,Instr.lookup,pI,jr hm,G6 h3,hk.chk,hfk,Result.andThen]
theorem Su{y:β}(hm:E.P.underlying t=some (.map kt et))(hk:SB E.P kt kv)(hx:aL E.N G x (tV (pI b)))(hi:Fx E.N G i (kv k))(hv:aL E.N G v (γ y))
  (h:RG E ops Q rest (HV γ kv b (jS m k y)::O) G):RG E ops Q (⟨none,.mapUpdate t x i v,ty,pos,after,none⟩::rest) (HV γ kv b m::O) G:= .of rfl fun a w S st=>by
 have h1:a.eval x=pI b:=hx S a st.facts
 have h2:a.eval i=kv k:=hi S a st.facts
 have h3:(γ y).p S (a.eval v):=hv S a st.facts
 obtain⟨⟨hno,es,clock,h5,h6⟩,_⟩:=st.own.1
 have hlt:=(sr.1 h5).1
 obtain⟨u,g1,g2⟩:=JQ hk (k:=k) (w:=w) 0 h6
 have hfk:(Instr.findKey kt (kv k) es.toList).run E.P w= .ok u w:=by rw [run_findKey_eq w hk.wide];exact g1
 obtain⟨X,hrun,hX⟩: ∃X:Obj,(Instr.mapUpdate t (pI b) (kv k) (a.eval v)).run E.P w= .ok () {w with heap:=w.heap.setIfInBounds b X}∧ ∃es' cl',X= .map es' cl' ∧uk γ kv S es'.toList (jS m k y):=by
  rcases g2 with⟨rfl,g3,g4⟩|⟨j,e,y',rfl,g3,g4,_,_⟩
  ·refine⟨.map (es.push ⟨kv k,a.eval v,clock⟩) (clock+1),?_,_,_,rfl,by rw [Array.toList_push];exact Dq hk.inj h3 h6 g3⟩
   simp [Instr.mapUpdate,pI,jr hm,G6 h5,hk.chk,hfk,Result.andThen,Ko _ h5]
  ·refine⟨.map (es.modify j fun e=>{e with key:=kv k,val:=a.eval v}) clock,?_,_,_,rfl,by rw [Array.toList_modify];exact Fk hk.inj h3 h6 j e g3 g4⟩
   have hgd:((es[j]?).map (·.key)).getD (kv k)=kv k:=by
    rw [←Kn,g3];exact g4
   simp only [pj]at hfk
   simp [Instr.mapUpdate,pI,jr hm,G6 h5,hk.chk,hfk,Result.andThen,hgd,Instr.keyThatStays,hk.same,Ko _ h5]
 have hrun' :(execOp a.eval ⟨none,.mapUpdate t x i v,ty,pos,after,none⟩).run E.P w= .ok .skip {w with heap:=w.heap.setIfInBounds b X}:=by simp [execOp,h1,h2,hrun]
 obtain⟨es',cl',rfl,h7⟩:=hX
 refine⟨fun c h=>(by cases h),?_⟩
 rw [hrun']
 obtain⟨q1,q2⟩:=MapKept.heap_set (o' := .map es' cl') h5
 obtain⟨f1,f2,f3⟩:=nI (O:=O) st.sat (w' :={w with heap:=w.heap.setIfInBounds b (.map es' cl')}) (HV γ kv b m) (HV γ kv b (jS m k y)) st.own (fun _=>sU) (fun _=>sU) ⟨rfl,rfl,rfl,by simp,gB _⟩ (fun j hj=>q2 j hj) ⟨hno,es',cl',q1,h7⟩ hno
 exact h _ _ S ⟨st.ext.step f1 (fun c hc=>st.own.1.2 c hc),f2,f3,st.facts⟩
end

def US{α:Type}(cmp:α×α→Option Int)(x y:α):Bool:=
 match cmp (x,y)with
 |some c=>decide (c<0)
 |none=>false
def VD{α:Type}(lt:α→α→Bool)(x:α):List α→List α
 |[]=>[x]
 |y::ys=>if lt y x then y::VD lt x ys else x::y::ys
def SR{α:Type}(lt:α→α→Bool):List α→List α
 |[]=>[]
 |x::xs=>VD lt x (SR lt xs)
structure Good{α:Type}(cmp:α×α→Option Int)(xs:List α):Prop where
 len:xs.length≤1099511627776
 tot: ∀x∈xs,∀y∈xs,(cmp (x,y)).isSome=true
 irr: ∀x∈xs,US cmp x x=false
 tr: ∀x∈xs,∀y∈xs,∀z∈xs,US cmp x y=true→US cmp y z=true→US cmp x z=true
 anti: ∀x∈xs,∀y∈xs,US cmp x y=false→US cmp y x=false→x=y
def sortI(xs:List Int):List Int:=xs.mergeSort fun x y=>decide (x≤y)
theorem Af(xs:List Int):(sortI xs).length=xs.length:=by unfold sortI;simp
def Ct(xs:List Int):Option (List Int):=if xs.length≤68719476736 then some (sortI xs)else none
theorem Hq{xs ys:List Int}(h:Ct xs=some ys):xs.length≤68719476736∧ys=sortI xs:=by
 unfold Ct at h
 split at h
 ·exact⟨by assumption,by simpa using h.symm⟩
 ·cases h

open Go.Sort Go.Shelf

structure Elt{α:Type}(r:Rp α)(S:SH)(XS:List α):Type where
 v:Value
 x:α
 h:r.rc S [v] x
 m:x∈XS
variable{os:Array Obj}
theorem zx{k:Nat}(h:k<w.heap.size):(grow w os).heap[k]? =w.heap[k]? :=by
 unfold grow;exact Array.getElem?_append_left h
theorem H4 [Inhabited α]{off:Nat}{d:Array α}{k:Nat}(h:k≠b):(putRow enc w b off d).heap[k]? =w.heap[k]? :=by
 unfold putRow mapBlock
 rw [Array.getElem?_modify,bI (Ne.symm h)]
theorem zw [Inhabited α]{off m:Nat}{d:Array α}{k:Nat}(hk:k<w.heap.size)(h:k≠b):(sortWorld enc w b off m d os).heap[k]? =w.heap[k]? :=by
 unfold sortWorld
 rw [zx (by rw [size_putRow];exact hk),H4 h];rfl
theorem Gj [Inhabited α]{off m:Nat}{d:Array α}{c:Array Value}{fr:Nat×Nat}(h:w.heap[b]? =some (.cells c T fr)):
  (sortWorld enc w b off m d os).heap[b]? =some (.cells (putCells enc off d c) T fr):=by
 have hlt:=(sr.1 h).1
 unfold sortWorld
 rw [zx (by rw [size_putRow];exact hlt)]
 unfold putRow mapBlock
 rw [Array.getElem?_modify,bQ rfl]
 show Option.map _ (w.heap[b]?)=_
 rw [h];rfl
theorem Ee [Inhabited α]{d:Array α}{c:Array Value}(h:d.size≤c.size):(putCells enc 0 d c).toList.take d.size=d.toList.map enc:=by
 apply G8
 intro k
 by_cases hk:k<d.size
 ·rw [Ac hk]
  have hc:k<c.size:=by omega
  simp [putCells,hc,hk]
 ·rw [Ck (by simp;omega),Ck (by simp;omega)]
section
theorem IA{m:Nat}(hl:m=n)(s:Nat)(hs:look G s=some (tV (aD l cap n)))(k:RG E ops Q rest O ((s,tV (aD l cap m))::G)):RG E ops Q rest O G:=by
 subst hl
 exact fun a w S st=>k a w S ⟨st.ext,st.sat,st.own,⟨st.facts.size,st.facts.defers,fun j t h=>by
  unfold look at h
  by_cases hb:Nat.beq s j=true
  ·rw [hb]at h
   have:=qd hb
   subst this
   have e:tV (aD l cap m)=t:=by simpa using h
   rw [←e];exact st.facts.at_ s _ hs
  ·rw [yL]at hb
   rw [hb]at h
   exact st.facts.at_ j t h⟩⟩
end

theorem KE{k:IntKind}{S:SH}: ∀{xs:List Int} {cs:List Value},si (rI k) S cs xs→cs=xs.map (Value.int k)
 |[],cs,h=>by rw [show cs=[]from h];rfl
 |x::xs,cs,⟨a,b,e,h1,h2⟩=>by
  rw [e,show a=[.int k x]from h1,KE h2]
  rfl
theorem KX{k:IntKind}{S:SH}: ∀xs:List Int,si (rI k) S (xs.map (Value.int k)) xs
 |[]=>rfl
 |x::xs=>⟨[.int k x],_,rfl,rfl,KX xs⟩
theorem Mg{ρ:Ren}(L:Lays.n189 P ρ){xs:List Int}(hlen0:xs.length≤68719476736)(hs:jp w S)(h:(cY (rI .i64) T l cap xs).p w S):
  Calls P (ρ.f 189) #[aD l cap xs.length] w fun e w' =>e= .returned (.tuple #[])∧gW (fun k=>l=some k) w S w' S∧jp w' S∧(cY (rI .i64) T l cap (sortI xs)).p w' S:=by
 cases l with
 |none=>
  have hx:xs=[]:=uL (by obtain⟨_,h4,_⟩:=h;exact h4.1)
  subst hx
  exact(Any.slices_Sort_int_none (P:=P) (ρ:=ρ) L none 0 w).mono fun _ _ ⟨h1,h2⟩=>by subst h2;exact⟨h1,hY _ _ _,hs,by simpa [sortI] using h⟩
 |some b=>
  obtain⟨cells0,⟨cur,hb,hle,hmax,hcs,hct⟩,hrc,hno0⟩:=h
  have hno:S b=none:=hno0 b rfl
  subst hct
  have h1:(rI .i64).sz=1:=rfl
  rw [h1,Nat.mul_one]at hcs hrc
  have hcells:=KE hrc
  have hH:Holds (Value.int .i64) w b 0 xs.toArray:=by
   intro j hj
   have hj' :j<xs.length:=by simpa using hj
   have hc:cur[j]? =some (Value.int .i64 xs.toArray[j]!):=by
    have:(cur.toList.take xs.length)[j]? =some (Value.int .i64 xs.toArray[j]!):=by
     rw [hcells,Ez,getElem!_pos xs.toArray j hj]
     simp [hj']
    rw [Ac (by omega)]at this
    simpa using this
   refine⟨by simp [World.cell?,hb,hc],?_⟩
   simp [World.frozen?,hb]
  have hblk:=(sr.1 hb).1
  have hcall:=calls_of_every_depth fun D=>AnyS.slices_Sort_int_alone (P:=P) (ρ:=ρ) L D b 0 cap xs w hH hblk (by omega)
  refine hcall.mono fun e w' ⟨he,n,os,hw⟩=>?_
  have hlen:=Af xs
  have hw2:w' =sortWorld (Value.int .i64) w b 0 n (sortI xs).toArray os:=hw
  subst hw2
  refine⟨he,⟨rfl,rfl,rfl,Nat.le_add_right _ _,?_,fun k hk hkb=>zw hk (fun e=>hkb (by rw [e])),SH.le_refl _,fun _ _ _=>rfl⟩,hs.same fun k o hk=>?_,⟨_,⟨_,Gj hb,by omega,hmax,?_,rfl⟩,?_,hno0⟩⟩
  ·unfold sortWorld;rw [size_grow,size_putRow];exact Nat.le_add_right _ _
  ·have hkb:k≠b:=fun e=>by subst e;rw [hno]at hk;cases hk
   exact zw (hs.lt hk) hkb
  ·simp [putCells,h1,hcs]
  ·have e1:(sortI xs).length*(rI .i64).sz=(sortI xs).toArray.size:=by rw [h1];simp
   rw [e1,Ee (by simp;omega)]
   exact KX (sortI xs)
section
theorem PA{ρ:Ren}(L:Lays.n189 E.P ρ){f:FuncId}(hf:ρ.f 189=f)(hc:au E.P f=true){xs ys:List Int}{x:Operand}{ats:Array TypeId}(hy:Ct xs=some ys)(hx:aL E.N G x (tV (aD l cap n)))(hn:n=xs.length)(hd:Nat.blt d E.N.n=true)(k:ys.length=n→RG E ops Q rest (cY (rI .i64) T l cap ys::O) ((d,BH)::G)):RG E ops Q (⟨some d,.call ⟨.value (.func f),#[x],ats⟩,ty,pos,after,none⟩::rest) (cY (rI .i64) T l cap xs::O) G:= .of rfl fun a w S st=>by
 obtain⟨hl0,rfl⟩:=Hq hy
 subst hf
 subst hn
 have h1:a.eval x=aD l cap xs.length:=hx S a st.facts
 have hr:(execOp a.eval ⟨some d,.call ⟨.value (.func (ρ.f 189)),#[x],ats⟩,ty,pos,after,none⟩).run E.P w= .ok (.enter (ρ.f 189) #[aD l cap xs.length]) w:=by
  have e0:a.eval (.func (ρ.f 189))= .func (.func (ρ.f 189)) #[] #[]:=rfl
  simp [execOp,resolve,e0,h1,Deferred.ofValue,invoke,f7 hc]
 refine⟨fun c h=>(by cases h),?_⟩
 rw [hr]
 refine(Mg L hl0 st.sat st.own.1.1).mono fun e w' ⟨he,hext,hsat,hp⟩=>⟨_,he,?_⟩
 have hfp: ∀g∈O,∀b,g.fp b→ ¬(l=some b):=fun g hg b hb hl=>st.own.2.1 g hg b hl hb
 refine k (Af xs) _ _ S ⟨st.ext.step hext (fun c hc=>st.own.1.2 c hc),hsat,⟨⟨hp,st.own.1.2⟩,st.own.2.1,st.own.2.2.ext hext hfp⟩,?_⟩;exact(st.facts.mono hext.keep).put hd trivial
end
open Go.Lib

theorem qL(hle: ∀(b:Nat) (o:Obj),W.heap[b]? =some o→ ∃o',w.heap[b]? =some o' ∧DY o o'){v:Value}(h:W.cell? ⟨b,i,none⟩=some v):w.cell? ⟨b,i,none⟩=some v:=by
 unfold World.cell? at h ⊢
 cases hb:W.heap[b]? with
 |none=>simp [hb]at h
 |some o=>
  obtain⟨o',h1,h2⟩:=hle b o hb
  simp only [hb]at h
  simp only [h1]
  cases o with
  |cells c T fr=>
   obtain⟨l,rfl⟩:=h2
   simp only [Option.isSome_none,uK,qa]at h ⊢
   rw [←Kn]at h ⊢
   rw [vh (pc.1 h).1]
   exact h
  |_=>simp at h
theorem IQ{g:Nat}{T:Array CaseRow}(hle: ∀(b:Nat) (o:Obj),W.heap[b]? =some o→ ∃o',w.heap[b]? =some o' ∧DY o o')(h:CaseVar g T W):CaseVar g T w:=by
 obtain⟨R,oR,cap,h1,h2⟩:=h
 exact⟨R,oR,cap,qL hle h1,fun i hi=>⟨qL hle (h2 i hi).1,qL hle (h2 i hi).2.1,qL hle (h2 i hi).2.2.1,qL hle (h2 i hi).2.2.2.1,qL hle (h2 i hi).2.2.2.2⟩⟩
theorem GN{g3 g4:Nat}(hle: ∀(b:Nat) (o:Obj),W.heap[b]? =some o→ ∃o',w.heap[b]? =some o' ∧DY o o')(h:Utf8Tabs g3 g4 W):Utf8Tabs g3 g4 w:=
 ⟨fun c hc=>qL hle (h.1 c hc),fun i hi=>⟨qL hle (h.2 i hi).1,qL hle (h.2 i hi).2⟩⟩
end Go.Proofs.YtmogpgcfognefaaGreatDoor

