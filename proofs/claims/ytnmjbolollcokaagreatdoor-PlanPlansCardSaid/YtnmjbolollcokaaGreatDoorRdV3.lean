/- dr of this claim: W28, W30, W31, W32, W33, W34, W35, W36, W37, W38, W39, W40, W48, W50, W51. -/
import Derived.Test.YtnmjbolollcokaaGreatDoorRdV2
import Derived.MapKept
import Derived.Scope
import Derived.ChangeKeysEq
import Derived.Lib.Bytealg
import Derived.Maps.Range
import Derived.Laws.IdiomRangeMap
import Derived.Test.YtnmjbolollcokaaGreatDoorRdV1
import Derived.Laws.BytesString
import Derived.Below
set_option linter.all false
namespace Go.Proofs.YtnmjbolollcokaaGreatDoor
open Go

variable{β α:Type}{b:Nat}{c:Code}{d:Nat}{e:Exit}{k:Nat}{r:Rp α}{x:Operand}{y:β}
theorem X7 [Inhabited α]{c b:Bool}{x:Option α}{k:α→Option β}{d:Option β}{r:β}(h:c=true→(if b=true then x.bind k else d)=some r): ∃y,((c&&b)=true→x=some y∧k y=some r)∧(c=true→b=false→d=some r):=by
 cases c with
 |false=>exact⟨default,fun e=>(by cases e),fun e=>(by cases e)⟩
 |true=>
  obtain⟨y,h1,h2⟩:=og (h rfl)
  exact⟨y,fun e=>h1 e,fun _ e=>h2 e⟩
def sU{κ β:Type} [DecidableEq κ]:List (κ×β)→κ→Option β
 |[],_=>none
 |p::m,k=>if p.1=k then some p.2 else sU m k
def fQ{κ β:Type} [DecidableEq κ]:List (κ×β)→κ→β→List (κ×β)
 |[],k,v=>[(k,v)]
 |p::m,k,v=>if p.1=k then(k,v)::m else p::fQ m k v
def Jw{κ:Type}(P:Program)(kt:TypeId)(kv:κ→Value):Prop:= ∃d,P.underlying kt=some d∧(∀a,MapKept.IsKey d (kv a))∧ ∀a b,kv a=kv b→a=b
def Ya(k:IntKind)(n:Int):Value:= .int k n
variable{P:Program}{a:Act}{kt:TypeId}
theorem lr{k:IntKind}(h:P.underlying kt=some (.int k)):Jw P kt (Ya k):=⟨_,h,fun _=>rfl,fun a b e=>by injection e⟩
structure MV(β:Type) where
 p:World→SH→β→Option Nat×Nat→Value→Prop
 here: ∀{w S y o v},p w S y o v→ ∀j,o.1=some j→j<w.heap.size
 kept: ∀{C w w' S S' y o v},p w S y o v→gW C w S w' S' →(∀j,o.1=some j→ ¬C j)→p w' S' y o v
def CM{β:Type}(ty:β→Ty):MV β where
 p:=fun _ S y o v=>o.1=none∧(ty y).p S v
 here:=fun h j hj=>by rw [h.1]at hj;cases hj
 kept:=fun h k _=>⟨h.1,(ty _).mono k.keep h.2⟩
variable{S S' :SH}{V:MV β}{f:FuncId}{κ:Type}{kv:κ→Value}{m:List (κ×β)}{o:Oper}{os:List (Option Nat×Nat)}{q:Rp β}{v:Value}{w w' :World}{xs:List α}
section
variable [DecidableEq κ]{d:TypeDesc}{k:κ}
def yP(V:MV β)(kv:κ→Value)(w:World)(S:SH)(h:Option κ):List MapEntry→List (Option Nat×Nat)→List (κ×β)→Prop
 |[],[],[]=>True
 |e::es,o::os,q::m=>e.key=kv q.1∧(if h=some q.1 then o.1=none else V.p w S q.2 o e.val)∧(∀o' ∈os,∀j,o.1=some j→o'.1≠some j)∧(∀p∈m,p.1≠q.1)∧yP V kv w S h es os m
 |_,_,_=>False
theorem F7{h:Option κ}: ∀{es:List MapEntry} {os:List (Option Nat×Nat)} {m:List (κ×β)},yP V kv w S h es os m→ ∀o∈os,∀j,o.1=some j→j<w.heap.size
 |[],[],[],_,o,ho,_,_=>by cases ho
 |e::es,o::os,q::m,⟨_,h2,_,_,h5⟩,o',ho,j,hj=>by
  rcases jl.1 ho with rfl|ho
  ·split at h2
   ·rw [h2]at hj;cases hj
   ·exact V.here h2 j hj
  ·exact F7 h5 o' ho j hj
theorem AP{C:Nat→Prop}(k:gW C w S w' S'){h:Option κ}: ∀{es:List MapEntry} {os:List (Option Nat×Nat)} {m:List (κ×β)},yP V kv w S h es os m→(∀o∈os,∀j,o.1=some j→ ¬C j)→yP V kv w' S' h es os m
 |[],[],[],_,_=>trivial
 |e::es,o::os,q::m,⟨h1,h2,h3,h4,h5⟩,hC=>⟨h1,by
  split
  ·rename_i hh;rw [bS hh]at h2;exact h2
  ·rename_i hh;rw [bM hh]at h2;exact V.kept h2 k (hC o (iA ..)),h3,h4,AP k h5 fun o' ho=>hC o' (pS _ ho)⟩
theorem Cp{h:Option κ}: ∀{es:List MapEntry} {os:List (Option Nat×Nat)} {m:List (κ×β)},yP V kv w S h es os m→(∀p∈m,h≠some p.1)→yP V kv w S none es os m
 |[],[],[],_,_=>trivial
 |e::es,o::os,q::m,⟨h1,h2,h3,h4,h5⟩,hk=>⟨h1,by
  rw [bM (hk q (iA ..))]at h2
  rw [bM (by simp)];exact h2,h3,h4,Cp h5 fun p hp=>hk p (pS _ hp)⟩
theorem tf(hd: ∀a,MapKept.IsKey d (kv a))(hi: ∀a b,kv a=kv b→a=b)(a b:κ):Instr.sameNow d (kv a) (kv b)=some (decide (a=b)):=by
 obtain⟨r,h1,h2⟩:=MapKept.sameNow_of_keys (hd a) (hd b)
 rw [h1]
 by_cases h:a=b
 ·subst h;rw [h2.2 rfl];simp
 ·rw [oQ h]
  cases r with
  |false=>rfl
  |true=>exact absurd (hi _ _ (h2.1 rfl)) h
theorem wB(hd: ∀a,MapKept.IsKey d (kv a))(hi: ∀a b,kv a=kv b→a=b): ∀{es:List MapEntry} {os:List (Option Nat×Nat)} {m:List (κ×β)} (i:Nat),yP V kv w S none es os m→
  ∃os',(∀x∈os',x∈os∨x.1=none)∧yP V kv w S (some k) es os' m∧
   ((sU m k=none∧Instr.findNow d (kv k) es i=some none)∨ ∃(y:β) (o:Option Nat×Nat) (e:MapEntry) (j:Nat),sU m k=some y∧o∈os∧V.p w S y o e.val∧Instr.findNow d (kv k) es i=some (some (j,e.val))∧ ∀x∈os',∀q,o.1=some q→x.1≠some q)
 |[],[],[],i,_=>⟨[],fun x hx=>(by cases hx),trivial,.inl ⟨rfl,rfl⟩⟩
 |e::es,o::os,q::m,i,⟨h1,h2,h3,h4,h5⟩=>by
  rw [bM (by simp)]at h2
  by_cases hk:q.1=k
  ·refine⟨(none,0)::os,fun x hx=>?_,⟨h1,by rw [bS (by rw [hk])],fun _ _ _ hj=>(by cases hj),h4,?_⟩,.inr ⟨q.2,o,e,i,by unfold sU;rw [bS hk],iA ..,h2,?_,fun x hx j hj=>?_⟩⟩
   ·rcases jl.1 hx with rfl|hx
    ·exact .inr rfl
    ·exact .inl (pS _ hx)
   ·have: ∀{es:List MapEntry} {os:List (Option Nat×Nat)} {m:List (κ×β)},yP V kv w S none es os m→(∀p∈m,p.1≠k)→yP V kv w S (some k) es os m:=by
     intro es
     induction es with
     |nil=>intro os m h _;cases os<;>cases m<;>first|trivial|exact h.elim
     |cons e es ih=>
      intro os m h hm
      cases os with
      |nil=>cases m<;>exact h.elim
      |cons o os=>
       cases m with
       |nil=>exact h.elim
       |cons q m=>
        obtain⟨g1,g2,g3,g4,g5⟩:=h
        rw [bM (by simp)]at g2
        exact⟨g1,by rw [bM (fun e=>hm q (iA ..) (po e).symm)];exact g2,g3,g4,ih g5 fun p hp=>hm p (pS _ hp)⟩
    exact this h5 (fun p hp=>by rw [←hk];exact h4 p hp)
   ·unfold Instr.findNow
    rw [h1,tf hd hi,hk,qn rfl]
   ·rcases jl.1 hx with rfl|hx
    ·exact fun e=>by cases e
    ·exact h3 x hx j hj
  ·obtain⟨os',g1,g2,g3⟩:=wB hd hi (i+1) h5
   refine⟨o::os',fun x hx=>?_,⟨h1,by rw [bM (fun e=>hk (po e).symm)];exact h2,fun o' ho' j hj=>?_,h4,g2⟩,?_⟩
   ·rcases jl.1 hx with rfl|hx
    ·exact .inl (iA ..)
    ·exact(g1 x hx).imp (pS _) id
   ·rcases g1 o' ho' with h|h
    ·exact h3 o' h j hj
    ·rw [h];exact fun e=>by cases e
   ·have hf:Instr.findNow d (kv k) (e::es) i=Instr.findNow d (kv k) es (i+1):=by
     conv=>lhs;unfold Instr.findNow
     rw [h1,tf hd hi,oQ (fun e=>hk e.symm)]
    have hm:sU (q::m) k=sU m k:=by conv=>lhs;unfold sU;rw [bM hk]
    rw [hf,hm]
    refine g3.imp id fun⟨y,o1,e1,j,f1,f2,f3,f4,f5⟩=>⟨y,o1,e1,j,f1,pS _ f2,f3,f4,fun x hx q hq=>?_⟩
    rcases jl.1 hx with rfl|hx
    ·exact fun e=>h3 o1 f2 q e hq
    ·exact f5 x hx q hq
theorem IH(x:α)(xs:List α)(j:Nat)(f:α→α):(x::xs).modify (j+1) f=x::xs.modify j f:=by simp [List.modify_succ_cons]
theorem F8(hd: ∀a,MapKept.IsKey d (kv a))(hi: ∀a b,kv a=kv b→a=b){y:β}{o:Option Nat×Nat}{v:Value}{born:Nat}(hv:V.p w S y o v): ∀{es:List MapEntry} {os:List (Option Nat×Nat)} {m:List (κ×β)} (i:Nat),yP V kv w S (some k) es os m→(∀o' ∈os,∀j,o.1=some j→o'.1≠some j)→
    ∃os',(∀x∈os',x∈os∨x=o)∧
      ((∃(j:Nat) (e:MapEntry),Instr.findNow d (kv k) es i=some (some (i+j,e.val))∧es[j]? =some e∧e.key=kv k∧yP V kv w S none (es.modify j fun e=>{e with key:=kv k,val:=v}) os' (fQ m k y))∨
        (Instr.findNow d (kv k) es i=some none∧yP V kv w S none (es++[⟨kv k,v,born⟩]) os' (fQ m k y)))
  |[],[],[],i,_,_=>⟨[o],fun x hx=> .inr (tQ.1 hx),.inr ⟨rfl,⟨rfl,by rw [bM (by simp)];exact hv,fun _ h=>(by cases h),fun _ h=>(by cases h),trivial⟩⟩⟩
  |e::es,o1::os,q::m,i,⟨h1,h2,h3,h4,h5⟩,ha=>by
    by_cases hk:q.1=k
    · refine⟨o::os,fun x hx=>?_,.inl ⟨0,e,?_,rfl,by rw [h1,hk],?_⟩⟩
      · rcases jl.1 hx with rfl|hx
        · exact .inr rfl
        · exact .inl (pS _ hx)
      · unfold Instr.findNow
        rw [h1,tf hd hi,hk,qn rfl]
        rfl
      · unfold fQ
        rw [bS hk,List.modify_zero_cons]
        exact⟨rfl,by rw [bM (by simp)];exact hv,fun o' ho' =>ha o' (pS _ ho'),fun p hp=>by rw [←hk];exact h4 p hp,
          Cp h5 fun p hp e=>h4 p hp (by rw [hk];exact(po e).symm)⟩
    · obtain⟨os',g1,g2⟩:=F8 hd hi (born:=born) hv (i+1) h5 fun o' ho' =>ha o' (pS _ ho')
      rw [bM (fun e=>hk (po e).symm)]at h2
      have hf:Instr.findNow d (kv k) (e::es) i=Instr.findNow d (kv k) es (i+1):=by
        conv=>lhs;unfold Instr.findNow
        rw [h1,tf hd hi,oQ (fun e=>hk e.symm)]
      have hm:fQ (q::m) k y=q::fQ m k y:=by conv=>lhs;unfold fQ;rw [bM hk]
      have hap: ∀o' ∈os',∀j,o1.1=some j→o'.1≠some j:=fun o' ho' j hj=>by
        rcases g1 o' ho' with h|rfl
        · exact h3 o' h j hj
        · exact fun e=>ha o1 (iA ..) j e hj
      have hne: ∀p∈fQ m k y,p.1≠q.1:=by
        have: ∀m:List (κ×β),(∀p∈m,p.1≠q.1)→ ∀p∈fQ m k y,p.1≠q.1:=by
          intro m
          induction m with
          |nil=>intro _ p hp;rw [tQ.1 hp];exact fun e=>hk e.symm
          |cons p0 m ih=>
            intro hm p hp
            unfold fQ at hp
            split at hp
            · rcases jl.1 hp with rfl|hp
              · exact fun e=>hk e.symm
              · exact hm p (pS _ hp)
            · rcases jl.1 hp with rfl|hp
              · exact hm _ (iA ..)
              · exact ih (fun p hp=>hm p (pS _ hp)) p hp
        exact this m h4
      rw [hf,hm]
      refine⟨o1::os',fun x hx=>?_,g2.imp (fun⟨j,e',f1,f2,f3,f4⟩=>⟨j+1,e',by rw [f1];congr 3;omega,by simpa using f2,f3,?_⟩) fun⟨f1,f2⟩=>⟨f1,?_⟩⟩
      · rcases jl.1 hx with rfl|hx
        · exact .inl (iA ..)
        · exact(g1 x hx).imp (pS _) id
      · rw [IH]
        exact⟨h1,by rw [bM (by simp)];exact h2,hap,hne,f4⟩
      · exact⟨h1,by rw [bM (by simp)];exact h2,hap,hne,f2⟩
theorem F6{h:Option κ}: ∀{es:List MapEntry} {os:List (Option Nat×Nat)} {m:List (κ×β)},yP V kv w S h es os m→ ∀x∈es,∃q∈m,x.key=kv q.1
 |[],[],[],_,x,hx=>by cases hx
 |e::es,o::os,q::m,⟨h1,_,_,_,h5⟩,x,hx=>by
  rcases jl.1 hx with rfl|hx
  ·exact⟨q,iA ..,h1⟩
  ·obtain⟨q',g1,g2⟩:=F6 h5 x hx
   exact⟨q',pS _ g1,g2⟩
theorem Nn(hd: ∀a,MapKept.IsKey d (kv a)){h:Option κ}{es:List MapEntry}{i:Nat}(h4:yP V kv w S h es os m)(g1:Instr.findNow d (kv k) es i=some none){x:MapEntry}(hx:x∈es):x.key≠kv k:=by
 rcases MapKept.findNow_spec (hd k) es i (fun y hy=>by obtain⟨q,_,e⟩:=F6 h4 y hy;rw [e];exact hd _)with⟨_,h2⟩|⟨j,e,h2,_⟩
 ·exact h2 x hx
 ·rw [g1]at h2;cases h2
def rn(V:MV β)(kv:κ→Value)(b:Nat)(h:Option κ)(os:List (Option Nat×Nat))(m:List (κ×β)):OE where
 fp:=fun j=>j=b∨ ∃o∈os,o.1=some j
 p:=fun w S=>S b=none∧(∀o∈os,o.1≠some b)∧ ∃es clock,w.heap[b]? =some (.map es clock)∧yP V kv w S h es.toList os m∧MapKept.Stamped es clock
 here:=by
  intro w S ⟨_,_,es,clock,h3,h4,_⟩ j hj
  rcases hj with rfl|⟨o,ho,hj⟩
  ·exact(vd.1 h3).1
  ·exact F7 h4 o ho j hj
 kept:=by
  intro C w w' S S' ⟨h1,h2,es,clock,h3,h4,hst⟩ k hC
  have hlt:=(vd.1 h3).1
  exact⟨by rw [k.old b hlt (hC b (.inl rfl))];exact h1,h2,es,clock,by rw [k.heap b hlt (hC b (.inl rfl))];exact h3,AP k h4 (fun o ho j hj=>hC j (.inr ⟨o,ho,hj⟩)),hst⟩
def uz(b:Nat):Value:= .map (some b)
end
variable{E:En}{G:mz}{N:Nat}{O:List OE}{X:Type}{Q:Exit→Act→World→Prop}{T:TypeId}{after:Array Edge}{dst:Option Tmp}{et:TypeId}{fp:Nat→Prop}{g:Option (Nat×Bool)}{n:Nat}{ops:Array Oper}{pos:String}{rest:List Oper}{t:TypeId}{u:Value}{x1 x2 x3:OE}{z:List Value}{γ:β→Ty}
section
variable [DecidableEq κ]{k:κ}{i v:Operand}{dst:Option Nat}{ty:TypeId}
def Mm(N:Fr)(G:mz)(x:Operand)(u:Value):Prop:= ∀S a,dr N S a G→a.eval x=u
theorem wX{N:Fr}{q:IntKind}{n:Int}(h:aZ N G x (tD (rI q) n)):Mm N G x (Ya q n):=fun S a hf=>fe.1 (h S a hf)
def ZV(P:Program)(T:TypeId)(z:Value):Prop:=(P.info? T).bind (·.zero)=some z
theorem ZV.run{z:Value}(h:ZV P T z)(w:World):(zeroValue T).run P w= .ok z w:=by
 unfold ZV at h
 cases hi:P.info? T with
 |none=>rw [hi]at h;cases h
 |some i=>
  rw [hi]at h
  have h' :i.zero=some z:=h
  simp [zeroValue,typeInfo,hi,h']
theorem Ey(V:MV β)(kv:κ→Value)(hd:Nat.blt d E.N.n=true)(k: ∀b,RG E ops Q rest (rn V kv b none [] []::O) ((d,tV (uz b))::G)):
  RG E ops Q (⟨some d,.makeMap t none,ty,pos,after,none⟩::rest) O G:= .of rfl fun a w S st=>by
 obtain⟨he,hs',hno⟩:=f9 (w:=w) (.map #[] 0) st.sat
 have hrun:(execOp a.eval ⟨some d,.makeMap t none,ty,pos,after,none⟩).run E.P w= .ok (.value (uz w.heap.size)) (w.alloc (.map #[] 0)):=by
  simp [execOp,Instr.makeMap,uz]
 refine⟨fun c h=>(by cases h),?_⟩
 rw [hrun]
 exact k w.heap.size _ _ S ⟨st.ext.step0 he,hs',pO st.own he ⟨hno,fun _ h=>(by cases h),#[],0,Cx w _,trivial,MapKept.stamped_empty 0⟩ (fun b hb=>by
  rcases hb with rfl|⟨_,h,_⟩
  ·exact eW _
  ·cases h) st.base_le,st.facts.put hd rfl⟩
theorem rC{kk:Value}{es:Array MapEntry}{clock:Nat}{q:TypeDesc}{z:Value}{u:Option (Nat×Value)}(hm:P.underlying t=some (.map kt et))(hq:P.underlying kt=some q)(hk:MapKept.IsKey q kk)(hb:w.heap[b]? =some (.map es clock))(hz:ZV P et z)(hf:Instr.findNow q kk es.toList 0=some u)(c:Bool):(Instr.lookup t (uz b) kk c).run P w= .ok (if c then .tuple #[(u.map (·.2)).getD z,.bool u.isSome]else(u.map (·.2)).getD z) w:=by
 cases u with
 |none=>simp [Instr.lookup,uz,kH hm,K0 hb,KW hq hk,MapKept.run_findKey hq hf,hz.run,Result.andThen]
 |some r=>simp [Instr.lookup,uz,kH hm,K0 hb,KW hq hk,MapKept.run_findKey hq hf,Result.andThen]
theorem Ki{z:β}{zv:Value}(hm:E.P.underlying t=some (.map kt et))(hk:Jw E.P kt kv)(hz:ZV E.P et zv)(hzt: ∀S,(γ z).p S zv)(hmem:rn (CM γ) kv b none os m∈O)(hx:aZ E.N G x (tV (uz b)))(hi:Mm E.N G i (kv k)):
  cH E O G ⟨dst,.lookup t x i false,ty,pos,after,g⟩ (γ ((sU m k).getD z)):= .of_pure fun a w S hs ho hf=>by
 obtain⟨⟨_,_,es,clock,h3,h4,_⟩,_⟩:=du.mem ho _ hmem
 obtain⟨q,hq,hd,hinj⟩:=hk
 have h1:a.eval x=uz b:=hx S a hf
 have h2:a.eval i=kv k:=hi S a hf
 obtain⟨_,_,_,h5⟩:=wB hd hinj (k:=k) 0 h4
 rcases h5 with⟨g1,g2⟩|⟨y,o,e,j,g1,g2,g3,g4,g5⟩
 ·refine⟨zv,by simp [execOp,h1,h2,rC hm hq (hd k) h3 hz g2],by rw [g1];exact hzt S⟩
 ·refine⟨e.val,by simp [execOp,h1,h2,rC hm hq (hd k) h3 hz g4],by rw [g1];exact g3.2⟩
theorem IA{z:β}{zv:Value}(hm:E.P.underlying t=some (.map kt et))(hk:Jw E.P kt kv)(hz:ZV E.P et zv)(hzt: ∀S,(γ z).p S zv)(hmem:rn (CM γ) kv b none os m∈O)(hx:aZ E.N G x (tV (uz b)))(hi:Mm E.N G i (kv k)):
  cH E O G ⟨dst,.lookup t x i true,ty,pos,after,g⟩ (tT [γ ((sU m k).getD z),tD rB (sU m k).isSome]):= .of_pure fun a w S hs ho hf=>by
 obtain⟨⟨_,_,es,clock,h3,h4,_⟩,_⟩:=du.mem ho _ hmem
 obtain⟨q,hq,hd,hinj⟩:=hk
 have h1:a.eval x=uz b:=hx S a hf
 have h2:a.eval i=kv k:=hi S a hf
 obtain⟨_,_,_,h5⟩:=wB hd hinj (k:=k) 0 h4
 rcases h5 with⟨g1,g2⟩|⟨y,o,e,j,g1,g2,g3,g4,g5⟩
 ·refine⟨.tuple #[zv,.bool false],by simp [execOp,h1,h2,rC hm hq (hd k) h3 hz g2],[zv,.bool false],rfl,by rw [g1];exact hzt S,ju.2 (by rw [g1];rfl),trivial⟩
 ·refine⟨.tuple #[e.val,.bool true],by simp [execOp,h1,h2,rC hm hq (hd k) h3 hz g4],[e.val,.bool true],rfl,by rw [g1];exact g3.2,ju.2 (by rw [g1];rfl),trivial⟩
theorem Br{kk:Value}{es:Array MapEntry}{clock:Nat}{q:TypeDesc}{val:Value}(hm:P.underlying t=some (.map kt et))(hq:P.underlying kt=some q)(hk:MapKept.IsKey q kk)(hb:w.heap[b]? =some (.map es clock)):
  (Instr.findNow q kk es.toList 0=some none→(Instr.mapUpdate t (uz b) kk val).run P w= .ok () {w with heap:=w.heap.setIfInBounds b (.map (es.push ⟨kk,val,clock⟩) (clock+1))})∧
  (∀j e,Instr.findNow q kk es.toList 0=some (some (j,e))→(∀e',es.toList[j]? =some e' →e'.key=kk)→(∃e',es.toList[j]? =some e')→(Instr.mapUpdate t (uz b) kk val).run P w= .ok () {w with heap:=w.heap.setIfInBounds b (.map (es.modify j fun e=>{e with key:=kk,val:=val}) clock)}):=by
 refine⟨fun hf=>?_,fun j e hf hj he=>?_⟩
 ·simp [Instr.mapUpdate,uz,kH hm,K0 hb,KW hq hk,MapKept.run_findKey hq hf,MapKept.run_setObj_map _ hb,Result.andThen]
 ·obtain⟨e',he'⟩:=he
  have h1:=hj e' he'
  have h2:es[j]? =some e' :=by simpa using he'
  simp [Instr.mapUpdate,uz,kH hm,K0 hb,KW hq hk,MapKept.run_findKey hq hf,MapKept.run_setObj_map _ hb,Result.andThen,h2,h1,MapKept.run_keyThatStays hk]
theorem Nh{o:Option Nat×Nat}{val:Value}(hs:jU w S)(hm:E.P.underlying t=some (.map kt et))(hk:Jw E.P kt kv)(hp:(rn V kv b (some k) os m).p w S)(hv:V.p w S y o val)(hob:o.1≠some b)(hap: ∀o' ∈os,∀j,o.1=some j→o'.1≠some j):
  ∃w' os',(Instr.mapUpdate t (uz b) (kv k) val).run E.P w= .ok () w' ∧gW (fun j=>j=b) w S w' S∧jU w' S∧(rn V kv b none os' (fQ m k y)).p w' S∧(∀j,(rn V kv b none os' (fQ m k y)).fp j→(rn V kv b (some k) os m).fp j∨o.1=some j):=by
 obtain⟨hno,hnb,es,clock,h3,h4,hst⟩:=hp
 obtain⟨q,hq,hdk,hinj⟩:=hk
 obtain⟨os',p1,p2⟩:=F8 hdk hinj (born:=clock) hv 0 h4 hap
 have hnb' : ∀o' ∈os',o'.1≠some b:=fun o' ho' =>by
  rcases p1 o' ho' with h|rfl
  ·exact hnb o' h
  ·exact hob
 have hfp: ∀j,(j=b∨ ∃o∈os',o.1=some j)→(j=b∨ ∃o∈os,o.1=some j)∨o.1=some j:=fun j hj=>by
  rcases hj with h|⟨o',ho',e⟩
  ·exact .inl (.inl h)
  ·rcases p1 o' ho' with h|rfl
   ·exact .inl (.inr ⟨o',h,e⟩)
   ·exact .inr e
 have hw: ∀X:Obj,gW (fun j=>j=b) w S {w with heap:=w.heap.setIfInBounds b X} S∧jU {w with heap:=w.heap.setIfInBounds b X} S∧({w with heap:=w.heap.setIfInBounds b X}:World).heap[b]? =some X:=fun X=>
  ⟨⟨rfl,rfl,rfl,eW _,by simp,fun j _ hj=>(MapKept.heap_set (o' :=X) h3).2 j hj,SH.le_refl _,fun _ _ _=>rfl⟩,hs.same fun j o hj=>(MapKept.heap_set (o' :=X) h3).2 j (fun e=>by subst e;rw [hno]at hj;cases hj),(MapKept.heap_set h3).1⟩
 obtain⟨r1,r2⟩:=Br (val:=val) hm hq (hdk k) h3
 rcases p2 with⟨j,e,g1,g2,g3,g4⟩|⟨g1,g2⟩
 ·rw [q7]at g1
  obtain⟨x1,x2,x3⟩:=hw (.map (es.modify j fun e=>{e with key:=kv k,val:=val}) clock)
  refine⟨_,os',r2 j _ g1 (fun e' he' =>by rw [g2]at he';cases he';exact g3) ⟨_,g2⟩,x1,x2,⟨hno,hnb',_,_,x3,?_,MapKept.stamped_modify hst j _ (fun _ _=>rfl) (fun e' _ he' =>by rw [←Array.getElem?_toList,g2]at he';cases he';exact g3.symm)⟩,hfp⟩;refine AP x1 (by rw [Array.toList_modify];exact g4) fun o' ho' j hj e=>?_
  subst e
  exact hnb' o' ho' hj
 ·obtain⟨x1,x2,x3⟩:=hw (.map (es.push ⟨kv k,val,clock⟩) (clock+1))
  refine⟨_,os',r1 g1,x1,x2,⟨hno,hnb',_,_,x3,?_,MapKept.stamped_push hst (fun x hx e=>?_)⟩,hfp⟩
  rotate_left
  ·exact Nn hdk h4 g1 hx e
  refine AP x1 (by rw [Array.toList_push];exact g2) fun o' ho' j hj e=>?_
  subst e
  exact hnb' o' ho' hj
end

def zz(tmps:Array Value):ResultVar→Sem Value
 | .tmp t=>pure (tmps.getD t undef)
 | .cell a t=>do loadVar t (←asAddr (tmps.getD a undef))
def Mc(P:Program)(N:Fr)(G:mz)(rv:ResultVar)(t:Ty):Prop:= ∀a w S,jU w S→dr N S a G→ ∃v,(zz a.tmps rv).run P w= .ok v w∧t.p S v
theorem dA{N:Fr}{t:Ty}(hk:look G k=some t):Mc P N G (.tmp k) t:=fun a w S _ hf=>⟨_,rfl,hf.at_ k t hk⟩
variable{U:TypeId}{agg:Bool}{bytes off sz:Nat}
theorem fh{N:Fr}{x:α}(ti:TI P T sz bytes agg z)(hsz:r.sz=sz)(hag:r.agg=agg)(hk:look G k=some (bt r x)):Mc P N G (.cell k T) (tD r x):=fun a w S hs hf=>by
 obtain⟨b,off,c,U,fr,h1,h2,h3⟩:=hf.at_ k _ hk
 obtain⟨c',h4,h5⟩:=hs.part h2 (r.len h3)
 rw [←h5]at h3
 have hl:=la ti h4 hsz hag h3
 have h1' :a.tmps[k]?.getD undef=Value.pointer (some ⟨b,off,none⟩):=by simpa [Gv] using h1
 exact⟨_,by simp [zz,h1',asAddr,hl],_,rfl,h3⟩
def NM(P:Program)(N:Fr)(G:mz):List ResultVar→List Ty→Prop
 |[],[]=>True
 |rv::rvs,t::ts=>Mc P N G rv t∧NM P N G rvs ts
 |_,_=>False
variable{ts:List Ty}
theorem NM.run{N:Fr}(hs:jU w S)(hf:dr N S a G): ∀{rvs:List ResultVar} {ts:List Ty},NM P N G rvs ts→ ∃vs,(rvs.mapM (zz a.tmps)).run P w= .ok vs w∧wZ S ts vs∧vs.length=rvs.length
 |[],[],_=>⟨[],rfl,trivial,rfl⟩
 |rv::rvs,t::ts,⟨h1,h2⟩=>by
  obtain⟨v,g1,g2⟩:=h1 a w S hs hf
  obtain⟨vs,k1,k2,k3⟩:=NM.run hs hf h2
  exact⟨v::vs,by simp [List.mapM_cons,g1,k1,Result.andThen],⟨g2,k2⟩,by simp [k3]⟩
variable{B:Nat→Prop}{S0:SH}{fn:Func}{w0:World}
theorem kP{rvs:List ResultVar}(hr:fn.results=rvs.toArray)(h1:Nat.beq rvs.length 1=false)(h:NM P ⟨N,[]⟩ G rvs ts):
  AT ⟨P,⟨N,[]⟩,B,w0,S0,none⟩ (bodyPost P fn (I8 ⟨P,⟨N,[]⟩,B,w0,S0,none⟩ (tT ts))) .ret O G:=fun a w S st=>by
 obtain⟨vs,k1,k2,k3⟩:=h.run st.sat st.facts
 have hne: ¬vs.length=1:=by rw [k3];intro e;rw [e]at h1;cases h1
 refine⟨st.facts.defers,.tuple vs.toArray,?_,_,S,rfl,st.ext,st.sat,vs,rfl,k2⟩
 have e1:(fn.results.mapM (zz a.tmps)).run P w= .ok vs.toArray w:=by
  rw [hr,List.mapM_toArray,Sem.run_map,k1]
  rfl
 have e3:results fn a.tmps=((fn.results.mapM (zz a.tmps))>>=fun vs=>pure (if h:vs.size=1 then vs[0]else .tuple vs)):=rfl
 rw [e3,qV,e1]
 simp [Result.andThen,hne]

variable{cap:Nat}{cs:List Value}
theorem Ow(h:(tD (fH r) xs).p S v):(fH r).rc S [v] xs:=by
 obtain⟨cs,e,h2⟩:=h
 obtain⟨a,cap,e2,h3⟩:=h2
 subst e2
 rw [e]
 exact⟨a,cap,rfl,h3⟩
variable{base:Nat}
section
variable{ty:TypeId}
theorem o6{r:Rp β}{get:β→Value}{x:β}{p:Operand}{l:Option Nat}(ti:TI E.P U 1 bytes false z)(hget:m9 r off rV get)(hm:bx r T b x∈O)(hv:get x=aV l cap n)(hp:aZ E.N G p (tV (aM b off))):
  cH E O G ⟨dst,.load U p,ty,pos,after,g⟩ (tV (aV l cap n)):=(aA (q:=rV) ti rfl rfl hget hm hp).imp fun _ _ h=>by rw [←hv];exact(vY.1 h).1
theorem o7{q:Rp α}{r:Rp β}{get:β→Value}{x:β}{V:TypeId}{p:Operand}{l:Option Nat}(ti:TI E.P U 1 bytes false z)(hget:m9 r off rV get)(hm:bx r T b x∈O)(hm2:tip q V l cap xs∈O)(hv:get x=aV l cap xs.length)(hp:aZ E.N G p (tV (aM b off))):
  cH E O G ⟨dst,.load U p,ty,pos,after,g⟩ (tO q l cap xs):=fun a w S hs ho hf=>
 o5 (fun _ _ ⟨v,S',h1,h2,h3,h4⟩=>⟨v,S',h1,h2,h3,h4,by
  have h5:v=aV l cap xs.length:=h4
  rw [h5]
  exact nE (((ho.ext0 h2).mem _ hm2).1)⟩) (o6 (g:=g) (ty:=ty) (pos:=pos) (after:=after) (dst:=dst) ti hget hm hv hp a w S hs ho hf)
theorem mo{i o:Nat}{p:Operand}(hf:cB E.P T i=some (off,sz))(h0:Nat.beq sz 0=false)(hp:aZ E.N G p (tV (aM b o)))(he:o+off=n):cH E O G ⟨dst,.fieldAddr T p i,ty,pos,after,g⟩ (tV (aM b n)):=by
 subst he
 exact EW hf h0 hp
theorem pZ{q:Rp α}{r:Rp β}{x:β}{y:α}{p:Operand}(ti:TI E.P U sz bytes agg z)(hsz:q.sz=sz)(hag:q.agg=agg)(hag2:r.agg=agg)(hsz2:r.sz=sz)(hm:bx r T b x∈O)(hc: ∀w S cs,du E.base E.B w S O→r.rc S cs x→q.rc S cs y)(hp:aZ E.N G p (tV (aM b 0))):
  cH E O G ⟨dst,.load U p,ty,pos,after,g⟩ (tD q y):= .of_pure fun a w S _ ho hf=>by
 have h1:a.eval p=aM b 0:=hp S a hf
 obtain⟨⟨_,cur,h5,h6⟩,_⟩:=ho.mem _ hm
 have h7:=hc w S _ ho h6
 have hl:=q.len h7
 have h8:q.rc S ((cur.toList.drop 0).take q.sz) y:=by rw [sM,rZ (by omega)];exact h7
 exact⟨_,by simp [execOp,h1,aM,Instr.loadAt,Instr.sureAddr,la ti h5 hsz hag h8],_,rfl,h8⟩
theorem uP{q:Rp α}{V:TypeId}{l:Option Nat}(ho:du base B w S O)(hm:tip q V l cap xs∈O):(fH q).rc S [aV l cap xs.length] xs:=Ow (nE (ho.mem _ hm).1)
end
def s8{α β γ:Type}(r:Rp α)(r' :Rp γ)(off:Nat)(q:Rp β)(x:α)(y:β)(x' :γ):Prop:= ∀S cs ds,r.rc S cs x→q.rc S ds y→r'.rc S (cs.take off++ds++cs.drop (off+q.sz)) x'
variable{set:α→β→α}
theorem ve{x:α}(h:gu r off q set):s8 r r off q x y (set x y):=fun S cs ds h1 h2=>h S cs x ds y h1 h2
theorem nL{γ:Type}{r' :Rp γ}{x:α}{y:γ}(hs:r.sz=r'.sz):s8 r r' 0 r' x y y:=fun S cs ds h1 h2=>by
 have hl:=r.len h1
 rw [List.take_zero,ke,vc (by omega),zU]
 exact h2
theorem CX{α' γ:Type}{p:Rp α}{p' :Rp α'}{x:α×β}{y:γ}{u:Rp γ}{x1:α'}(h:s8 p p' 0 u x.1 y x1)(hu:Nat.ble u.sz p.sz=true):s8 (cN p q) (cN p' q) 0 u x y (x1,x.2):=fun S cs ds ⟨a,b,e,h1,h2⟩ hd=>by
 have hl:=p.len h1
 have hu' :=pT hu
 have h3:=h S a ds h1 hd
 subst e
 rw [List.take_zero,ke,q7,JE (by omega),←iS]
 rw [List.take_zero,ke,q7]at h3
 exact⟨_,_,rfl,h3,h2⟩
theorem iq{β' γ:Type}{p:Rp α}{q' :Rp β'}{x:α×β}{y:γ}{u:Rp γ}{off' :Nat}{x2:β'}(h:s8 q q' off u x.2 y x2)(ho:off' =p.sz+off):s8 (cN p q) (cN p q') off' u x y (x.1,x2):=fun S cs ds ⟨a,b,e,h1,h2⟩ hd=>by
 have hl:=p.len h1
 have h3:=h S b ds h2 hd
 subst e ho
 refine⟨a,_,?_,h1,h3⟩
 have e1:p.sz+off-a.length=off:=by omega
 have e2:p.sz+off+u.sz-a.length=off+u.sz:=by omega
 rw [List.take_append,List.drop_append,rZ (by omega),vc (by omega),e1,e2]
 simp
theorem yf{α' β' γ:Type}{p:Rp α}{p' :Rp α'}{f:β→α}{f' :β' →α'}{x:β}{x' :β'}{y:γ}{u:Rp γ}{z:α'}(h:s8 p p' off u (f x) y z)(e:f' x' =z):s8 (nd p f) (nd p' f') off u x y x' :=fun S cs ds h1 h2=>by
 show p'.rc S _ (f' x')
 rw [e]
 exact h S cs ds h1 h2
section
variable{ty:TypeId}
theorem kw{γ:Type}{r' :Rp γ}{x:α}{x' :γ}{p v:Operand}(ti:TI E.P U sz bytes agg z)(hsz:q.sz=sz)(hset:s8 r r' off q x y x')(hoff:Nat.ble (off+q.sz) r.sz=true)(hp:aZ E.N G p (tV (aM b off)))(hv:aZ E.N G v (tD q y))(k:RG E ops Q rest (bx r' T b x' ::O) G):RG E ops Q (⟨none,.store U p v,ty,pos,after,none⟩::rest) (bx r T b x::O) G:= .of rfl fun a w S st=>by
 have h1:a.eval p=aM b off:=hp S a st.facts
 obtain⟨ds,h2,h3⟩:=hv S a st.facts
 obtain⟨⟨hno,cur,h5,h6⟩,_⟩:=st.own.1
 have hl:=r.len h6
 have hoff' :=pT hoff
 obtain⟨w',hr,e1,e2,e3,e4,e5,e6⟩:=lB ti hsz h3 h5 (off:=off) (by simp at hl;omega)
 have hrun:(execOp a.eval ⟨none,.store U p v,ty,pos,after,none⟩).run E.P w= .ok .skip w' :=by
  simp [execOp,h1,h2,Instr.storeAt,aM,Instr.sureAddr,hr]
 refine⟨fun c h=>(by cases h),?_⟩
 rw [hrun]
 obtain⟨g1,g2,g3⟩:=rk (O:=O) st.sat (bx r T b x) (bx r' T b x') st.own (fun _=>Iff.rfl) (fun _=>Iff.rfl) ⟨e1,e2,e3,e4.1,e4.2⟩ e6 ⟨hno,_,e5,by simpa using hset S _ _ h6 h3⟩ hno
 exact k _ _ S ⟨st.ext.step g1 (fun c hc=>st.own.1.2 c hc),g2,g3,st.facts⟩
end

section
variable{b:Frame}{k:List Item}{cs:List Frame}{F:Fence}
theorem qd:step P (lone (b.atR a (.code (.scope c)::k)) cs w)= .next (lone (b.atR a (.code c:: .inScope c::k)) cs w):=
 step_lone_go (by simp [stepG,stepG.exec,Frame.atR])
theorem EM:step P (lone (b.atR a (.inScope c::k)) cs w)= .next (lone (b.atR a k) cs w):=
 step_lone_go (by simp [stepG,stepG.exec,Frame.atR])
theorem JM(h:c.wpIn F n P (Exit.noGoto Q) a w):(Code.scope c).wpIn F n P Q a w:=by
 intro b k cs hro hb hr
 have h0:(lone (b.atR a (.code (.scope c)::k)) cs w).fenced P F:=fenced_calm hb hr rfl
 obtain⟨e,a₁,w₁,hq,harr⟩:=h b (.inScope c::k) cs hro hb hr
 cases e with
 |normal=>exact⟨.normal,a₁,w₁,hq,.head h0 qd (StepsIn.trans harr (.one (fenced_calm hb hr rfl) EM))⟩
 |exit id=>
  have hx:exitTo id (.inScope c::k)=exitTo id k:=by simp [exitTo]
  exact⟨.exit id,a₁,w₁,hq,fun k' hk=> .head h0 qd (harr.1 k' (by rw [hx];exact hk)),
   fun hr' hk=>let⟨k₁,h1,h2⟩:=harr.2 hr' (by rw [hx];exact hk);⟨k₁,h1,.head h0 qd h2⟩⟩
 |goto l=>exact hq.elim
 |ret=>exact⟨_,a₁,w₁,hq,.of_steps (.one h0 qd) harr⟩
 |panic ch=>exact⟨_,a₁,w₁,hq,.of_steps (.one h0 qd) harr⟩
 |outgrown=>exact⟨_,a₁,w₁,hq,.of_steps (.one h0 qd) harr⟩
end
section
theorem Qn(h:CG E (Exit.noGoto Q) c O G):CG E Q (.scope c) O G:=fun a w S st=>JM (h a w S st)
theorem Qo{l:Nat}(h:AT E Q .normal O G):CG E Q (.label l) O G:=fun a w S st=>wpIn_label (h a w S st)
theorem Gr(h:AT E Q .ret O G):AT E (Exit.noGoto Q) .ret O G:=h
end

theorem G5 [Inhabited α]{m i:Nat}(h:i<m):m9 (vh r m) (i*r.sz) r (fun x=>(x[i]?).getD default):=fun S cs x ⟨h1,h2⟩=>by
 have hi:x[i]? =some ((x[i]?).getD default):=by rw [q6 (by omega)];rfl
 exact C0 h2 hi
theorem Sj [DecidableEq α] [Inhabited α]{m t e:Nat}(ht:P.underlying t=some (.array m e))(ti:TI P e sz bytes agg z)(hsz:r.sz=sz)(hag:r.agg=agg)(he:ma P e r n):ma P t (vh r m) (n+1):=fun S cs ds x y d w hx hy=>by
 obtain⟨i,zv,hi,hs,_⟩:=ti.get
 have hcell:P.cellsOf e=r.sz:=by unfold Program.cellsOf;rw [hi];simp [hs,hsz]
 have e1:(vh r m).val cs= .agg cs.toArray:=rfl
 have e2:(vh r m).val ds= .agg ds.toArray:=rfl
 rw [e1,e2,show d+(n+1)=(d+n)+1 from rfl,run_equalIn_array w (d+n) cs.toArray ds.toArray ht hi,List.range_eq_range',hcell]
 have key: ∀k j,j+k=m→(Op.eqItems (d+n) e r.sz cs.toArray ds.toArray (List.range' j k)).run P w= .ok (decide (x.drop j=y.drop j)) w:=by
  intro k
  induction k with
  |zero=>
   intro j hj
   rw [vc (by have:=hx.1;omega),vc (by have:=hy.1;omega)]
   rfl
  |succ k ih=>
   intro j hj
   have hjx:j<x.length:=by have:=hx.1;omega
   have hjy:j<y.length:=by have:=hy.1;omega
   have h1:=tg ti hsz hag (G5 (r:=r) (m:=m) (i:=j) (by omega)) hx w
   have h2:=tg ti hsz hag (G5 (r:=r) (m:=m) (i:=j) (by omega)) hy w
   have h3:=he S _ _ _ _ d w (G5 (r:=r) (m:=m) (i:=j) (by omega) S cs x hx) (G5 (r:=r) (m:=m) (i:=j) (by omega) S ds y hy)
   rw [List.range'_succ]
   unfold Op.eqItems
   simp only [qV,h1,h2,h3,rY]
   have ex:x.drop j=(x[j]?).getD default::x.drop (j+1):=by rw [q6 hjx];exact r0 hjx
   have ey:y.drop j=(y[j]?).getD default::y.drop (j+1):=by rw [q6 hjy];exact r0 hjy
   rw [ex,ey]
   by_cases hq:(x[j]?).getD default=(y[j]?).getD default
   ·simp only [hq,decide_true,oh,mA,ji]
    rw [ih (j+1) (by omega)]
    congr 1
    simp
   ·simp [hq]
 have:=key m 0 (by omega)
 simpa using this
variable{ys:List α}
section
variable{ty:TypeId}
theorem Bz{xs:List Operand}{m sz' bytes' :Nat}{agg' :Bool}{z' :List Value}(ht:E.P.underlying t=some (.array m T))(ti:TI E.P T sz bytes agg z)(hsz:r.sz=sz)(tj:TI E.P t sz' bytes' agg' z')(hz:z'.length=m*r.sz)(hm:m=ys.length)(hx:jE E.N G xs (ys.map (tD r))):cH E O G ⟨dst,.build t (wP 0 xs).toArray,ty,pos,after,g⟩ (tD (vh r m) ys):=
 .of_pure fun a w S _ _ hF=>by
  obtain⟨zv,hzr,hzc⟩:=tj.zero w
  obtain⟨cs,hc,hfill⟩:=Ee ys (xs.map a.eval) 0 [] z' (hx.tys hF) (by simp) (by rw [hz,hm])
  subst hsz
  have hparts:((wP 0 xs).toArray.map fun(i,x)=>(i,a.eval x)).toList=Co 0 (xs.map a.eval):=by simpa using BJ a.eval 0 xs
  rw [ke,ke]at hfill
  refine⟨.agg cs.toArray,?_,cs,rfl,hm.symm,hc⟩
  simp only [execOp,Instr.build,qV,hzr,rY,kH ht,ti.sizeOf,hzc,hparts,hfill]
  simp
end

def xo(N:Nat):List Nat→List Oper→Bool
 |_,[]=>true
 |seen,o::rest=>match o.dst with
  |some d=>Nat.blt d N&& !(seen.any (Nat.beq d))&&xo N (d::seen) rest
  |none=>xo N seen rest
theorem B7(l:List Oper): ∀(seen:List Nat),xo N seen l=true→
  (∀o:Oper,o∈l→ ∀d,o.dst=some d→d<N∧d∉seen)∧ ∀(i j:Nat) (o p:Oper) (d:Nat),l[i]? =some o→l[j]? =some p→o.dst=some d→p.dst=some d→i=j:=by
 induction l with
 |nil=>exact fun _ _=>⟨fun _ h=>(by cases h),fun _ _ _ _ _ h=>(by simp at h)⟩
 |cons o l ih=>
  intro seen h
  unfold xo at h
  cases hd:o.dst with
  |none=>
   rw [hd]at h
   obtain⟨h1,h2⟩:=ih seen h
   refine⟨fun q hq d hqd=>?_,fun i j p q d hi hj hp hq=>?_⟩
   ·rcases jl.1 hq with rfl|hq
    ·rw [hd]at hqd;cases hqd
    ·exact h1 q hq d hqd
   ·cases i with
    |zero=>simp at hi;subst hi;rw [hd]at hp;cases hp
    |succ i=>
     cases j with
     |zero=>simp at hj;subst hj;rw [hd]at hq;cases hq
     |succ j=>rw [h2 i j p q d (by simpa using hi) (by simpa using hj) hp hq]
  |some d0=>
   rw [hd]at h
   simp only [lH,u9,Be]at h
   obtain⟨⟨g1,g2⟩,g3⟩:=h
   obtain⟨h1,h2⟩:=ih (d0::seen) g3
   have hns:d0∉seen:=fun hm=>by
    have:seen.any (Nat.beq d0)=true:=Cy.2 ⟨d0,hm,Nat.beq_refl d0⟩
    rw [this]at g2;cases g2
   refine⟨fun q hq d hqd=>?_,fun i j p q d hi hj hp hq=>?_⟩
   ·rcases jl.1 hq with rfl|hq
    ·rw [hd]at hqd;cases hqd;exact⟨g1,hns⟩
    ·obtain⟨k1,k2⟩:=h1 q hq d hqd
     exact⟨k1,fun hm=>k2 (pS _ hm)⟩
   ·cases i with
    |zero=>
     cases j with
     |zero=>rfl
     |succ j=>
      simp at hi;subst hi
      rw [hd]at hp;cases hp
      exact absurd (iA ..) (h1 q (ta (by simpa using hj)) d0 hq).2
    |succ i=>
     cases j with
     |zero=>
      simp at hj;subst hj
      rw [hd]at hq;cases hq
      exact absurd (iA ..) (h1 p (ta (by simpa using hi)) d0 hp).2
     |succ j=>rw [h2 i j p q d (by simpa using hi) (by simpa using hj) hp hq]
def Ix:List Oper→List Ty→mz→mz
 |o::l,t::ts,G=>match o.dst with
  |some d=>(d,t)::Ix l ts G
  |none=>Ix l ts G
 |_,_,G=>G
theorem FS(l:List Oper): ∀(ts:List Ty) (k:Nat) (t:Ty),ts.length=l.length→look (Ix l ts G) k=some t→
  (∃(j:Nat) (o:Oper),l[j]? =some o∧o.dst=some k∧ts[j]? =some t)∨(look G k=some t∧ ∀o:Oper,o∈l→o.dst≠some k):=by
 induction l with
 |nil=>
  intro ts k t hl h
  have:ts=[]:=vv (by simpa using hl)
  subst this
  exact .inr ⟨h,fun _ h=>(by cases h)⟩
 |cons o l ih=>
  intro ts k t hl h
  cases ts with
  |nil=>simp at hl
  |cons u ts=>
   unfold Ix at h
   have hl' :ts.length=l.length:=by simpa using hl
   have lift:((∃(j:Nat) (p:Oper),l[j]? =some p∧p.dst=some k∧ts[j]? =some t)∨(look G k=some t∧ ∀p:Oper,p∈l→p.dst≠some k))→o.dst≠some k→
     (∃(j:Nat) (p:Oper),(o::l)[j]? =some p∧p.dst=some k∧(u::ts)[j]? =some t)∨(look G k=some t∧ ∀p:Oper,p∈o::l→p.dst≠some k):=by
    rintro(⟨j,p,h1,h2,h3⟩|⟨h1,h2⟩) hne
    ·exact .inl ⟨j+1,p,by simpa using h1,h2,by simpa using h3⟩
    ·exact .inr ⟨h1,fun p hp=>(jl.1 hp).elim (fun e=>by subst e;exact hne) (h2 p)⟩
   cases hd:o.dst with
   |none=>
    rw [hd]at h
    exact lift (ih ts k t hl' h) (by rw [hd];exact fun e=>by cases e)
   |some d=>
    rw [hd]at h
    simp only at h
    unfold look at h
    by_cases hb:Nat.beq d k=true
    ·rw [hb]at h
     have:=pj hb
     subst this
     have e:u=t:=by simpa using h
     subst e
     exact .inl ⟨0,o,rfl,hd,rfl⟩
    ·rw [zW]at hb
     rw [hb]at h
     refine lift (ih ts k t hl' h) ?_
     rw [hd]
     intro e
     have:d=k:=po e
     subst this
     simp at hb
abbrev TS:=List Nat×(List OI→Ty)
def TS.at(p:TS)(σ:Nat→OI):Ty:=p.2 (p.1.map σ)
def tc(t:Ty):TS:=([],fun _=>t)
def N3(Ss:List ((Nat→OI)→List OE))(c:Nat)(σ:Nat→OI):List OE:=match Ss[c]? with|some f=>f σ|none=>[]
structure NS where
 slot:Nat
 ty:(Nat→OI)→Ty
 src:Option Nat
def NS.at(n:NS)(σ:Nat→OI):Nd:=⟨n.slot,n.ty σ,n.src⟩
def Sx(G:mz)(ts:List TS)(n:NS):Prop:=
 match n.src with
 |some j=> ∀σ,(ts[j]?).map (fun p=>p.at σ)=some (n.ty σ)
 |none=> ∀σ,look G n.slot=some (n.ty σ)
def wR(G:mz)(ts:List TS):List NS→Prop
 |[]=>True
 |n::l=>Sx G ts n∧wR G ts l
theorem wR.mem{ts:List TS}: ∀{l:List NS},wR G ts l→ ∀n∈l,Sx G ts n
 |_::_,⟨h,_⟩,_,.head _=>h
 |_::_,⟨_,h⟩,_,.tail _ hm=>wR.mem h _ hm
def wN(l:List NS)(σ:Nat→OI):mz:=kK (l.map (·.at σ))
def Qt(ts:List TS)(σ:Nat→OI):List Ty:=ts.map fun p=>p.at σ
def Nx(L:List Oper)(es:List Bool)(i:Nat)(p:TS):Bool:=p.1.all fun k=>(es[k]?).getD false&&(Nat.beq k i||n7 L L.length i k)
def TE(L:List Oper)(es:List Bool)(i lo hi:Nat):Bool:=
 Nat.ble lo (gJ es es.length)&&(List.range es.length).all fun k=> !((es[k]?).getD false)||((Nat.ble lo (gJ es k)||n7 L L.length i k)&&(Nat.blt (gJ es k) hi||n7 L L.length k i))
def DS(E:En)(G:mz)(L:List Oper)(ts:List TS)(Ss:List ((Nat→OI)→List OE))(es0:List Bool):Nat→Nat→List Oper→List Bool→Prop
 |_,_,[],_=>True
 |i,c,o::rest,false::es=>(∃(needs:List NS) (t:TS) (lo hi:Nat),ts[i]? =some t∧wR G ts needs∧(needs.all fun n=>qx L o i (n.at fun _=>nz))=true∧fD i o=true∧Nx L es0 i t=true∧TE L es0 i lo hi=true∧o.dst.isSome=true∧
   ∀c σ,lo≤c→c≤hi→bw E (N3 Ss c σ) L.toArray (wN needs σ) o (t.at σ))∧DS E G L ts Ss es0 (i+1) c rest es
 |i,c,o::rest,true::es=>(∃(needs:List NS) (t:TS),ts[i]? =some t∧wR G ts needs∧(needs.all fun n=>qx L o i (n.at fun _=>nz))=true∧fD i o=true∧Nx L es0 i t=true∧
   ∀σ,iO E L.toArray (N3 Ss c σ) (wN needs σ) o (fun x=>N3 Ss (c+1) (EI σ i x)) (fun x=>t.at (EI σ i x)))∧DS E G L ts Ss es0 (i+1) (c+1) rest es
 |_,_,_::_,[]=>False
variable{L:List Oper}{Ss:List ((Nat→OI)→List OE)}{lo:Int}{σ:Type}
theorem DS.get{ts:List TS}{es0:List Bool}: ∀(r:List Oper) (es:List Bool) (k c:Nat),DS E G L ts Ss es0 k c r es→ ∀(j:Nat) (o:Oper),r[j]? =some o→
    ∃e,es[j]? =some e∧ ∃(needs:List NS) (t:TS),ts[k+j]? =some t∧wR G ts needs∧(needs.all fun n=>qx L o (k+j) (n.at fun _=>nz))=true∧fD (k+j) o=true∧Nx L es0 (k+j) t=true∧
      (match e with
       |false=>o.dst.isSome=true∧ ∃lo hi,TE L es0 (k+j) lo hi=true∧ ∀c σ,lo≤c→c≤hi→bw E (N3 Ss c σ) L.toArray (wN needs σ) o (t.at σ)
       |true=> ∀σ,iO E L.toArray (N3 Ss (c+gJ es j) σ) (wN needs σ) o (fun x=>N3 Ss (c+gJ es j+1) (EI σ (k+j) x)) (fun x=>t.at (EI σ (k+j) x))):=by
  intro r
  induction r with
  |nil=>intro es k c _ j o h;simp at h
  |cons p r ih=>
    intro es k c h j o ho
    cases es with
    |nil=>exact h.elim
    |cons e es=>
      cases e with
      |false=>
        obtain⟨⟨needs,t,lo,hi,g1,g2,g3,g4,g5,g6,g7,g8⟩,h2⟩:=h
        cases j with
        |zero=>
          simp at ho;subst ho
          exact⟨false,rfl,needs,t,g1,g2,g3,g4,g5,g7,lo,hi,g6,g8⟩
        |succ j=>
          obtain⟨e',g1,g2⟩:=ih es (k+1) _ h2 j o (by simpa using ho)
          refine⟨e',by simpa using g1,?_⟩
          rw [show k+1+j=k+(j+1)from by omega]at g2
          have e1:c+gJ (false::es) (j+1)=c+gJ es j:=by simp [gJ]
          rw [e1];exact g2
      |true=>
        obtain⟨h1,h2⟩:=h
        cases j with
        |zero=>
          simp at ho;subst ho
          exact⟨true,rfl,h1⟩
        |succ j=>
          obtain⟨e',g1,g2⟩:=ih es (k+1) _ h2 j o (by simpa using ho)
          refine⟨e',by simpa using g1,?_⟩
          rw [show k+1+j=k+(j+1)from by omega]at g2
          have e1:c+gJ (true::es) (j+1)=c+1+gJ es j:=by simp [gJ];omega
          rw [e1];exact g2
structure S8(E:En)(G:mz)(l:List Oper)(ts:List TS)(Ss:List ((Nat→OI)→List OE))(es:List Bool)(done:Array Bool)(a:Act)(w:World)(S:SH)(σ:Nat→OI)(c:Nat):Prop where
 ext:gW E.B E.w0 E.S0 w S
 sat:jU w S
 own:du E.base E.B w S (N3 Ss c σ)
 size:a.tmps.size=E.N.n
 defers:a.defers=E.N.ds
 dsz:done.size=l.length
 down: ∀j o,l[j]? =some o→done.getD j false=true→ ∀e∈o.after,Region.binds .any e=true→done.getD e.on false=true
 old: ∀k t,look G k=some t→(∀j o,l[j]? =some o→done.getD j false=true→o.dst≠some k)→t.p S (a.tmps.getD k undef)
 new: ∀j o d p,l[j]? =some o→done.getD j false=true→o.dst=some d→ts[j]? =some p→(p.at σ).p S (a.tmps.getD d undef)
 deps: ∀j p,done.getD j false=true→ts[j]? =some p→ ∀k∈p.1,done.getD k false=true
 chain: ∀k,es[k]? =some true→(done.getD k false=true↔gJ es k<c)
section
variable{ts:List TS}{es:List Bool}
theorem S8.need{done:Array Bool}{σ:Nat→OI}{c:Nat}(h:S8 E G L ts Ss es done a w S σ c){i:Nat}(hi:L[i]? =some o)(hun:done.getD i true=false)(hwait: ∀e∈o.after,Region.binds .any e=true→done.getD e.on false=true){needs:List NS}(h1:wR G ts needs)(h2:(needs.all fun n=>qx L o i (n.at fun _=>nz))=true):dr E.N S a (wN needs σ):=by
 have hlt:i<done.size:=by rw [h.dsz];exact(qW.1 hi).1
 have hun' :done.getD i false=false:=by
  simp [hlt]at hun ⊢;exact hun
 refine⟨h.size,h.defers,?_⟩
 have key: ∀n∈needs,(n.ty σ).p S (a.tmps.getD n.slot undef):=by
  intro n hn
  have hs:=pi.1 h2 n hn
  have ho:=h1.mem n hn
  unfold qx NS.at at hs
  unfold Sx at ho
  cases hsrc:n.src with
  |some j=>
   rw [hsrc]at hs ho
   simp only [lH]at hs
   obtain⟨hs1,hs2⟩:=hs
   cases hj:L[j]? with
   |none=>rw [hj]at hs1;cases hs1
   |some p=>
    rw [hj]at hs1
    cases hd:p.dst with
    |none=>simp only [hd]at hs1;cases hs1
    |some d=>
     simp only [hd]at hs1
     have hd' :=pj hs1
     subst hd'
     have hdone:done.getD j false=true:=by
      unfold B4 at hs2
      obtain⟨e,he0,hb⟩:=Cy.1 hs2
      have he:e∈o.after:=by simpa using he0
      simp only [lH]at hb
      have:=hwait e he hb.2
      rwa [pj hb.1]at this
     have hm:=ho σ
     cases hf:ts[j]? with
     |none=>rw [hf]at hm;simp at hm
     |some f=>
      rw [hf]at hm
      have e:f.at σ=n.ty σ:=by simpa using hm
      rw [←e]
      exact h.new j p n.slot f hj hdone hd hf
  |none=>
   rw [hsrc]at hs ho
   refine h.old _ _ (ho σ) fun j p hj hdone hd=>?_
   have:=pi.1 hs p (ta hj)
   simp only [hd,Nat.beq_refl,oh,wS]at this
   unfold B4 at this
   obtain⟨e,he0,hb⟩:=Cy.1 this
   have he:e∈p.after:=by simpa using he0
   simp only [lH]at hb
   have h3:=h.down j p hj hdone e he hb.2
   rw [pj hb.1]at h3
   rw [h3]at hun'
   cases hun'
 clear h1 h2
 intro k t hk
 unfold wN at hk
 induction needs with
 |nil=>simp [kK,look]at hk
 |cons n needs ih=>
  simp only [yE]at hk
  unfold kK look at hk
  by_cases hb:Nat.beq n.slot k=true
  ·have hb' :Nat.beq (n.at σ).slot k=true:=hb
   rw [hb']at hk
   have:=pj hb
   subst this
   have h9:some (n.at σ).ty=some t:=by simpa using hk
   have e:n.ty σ=t:=po h9
   rw [←e]
   exact key n (iA ..)
  ·rw [zW]at hb
   have hb' :Nat.beq (n.at σ).slot k=false:=hb
   rw [hb']at hk
   exact ih (fun m hm=>key m (pS _ hm)) hk
theorem S8.step{done:Array Bool}{σ σ' :Nat→OI}{c c' :Nat}(h:S8 E G L ts Ss es done a w S σ c){i:Nat}{p0:TS}{C:Nat→Prop}(hi:L[i]? =some o)(hdN: ∀d,o.dst=some d→d<E.N.n)(hs2: ∀d,o.dst=some d→ ∀j p,L[j]? =some p→done.getD j false=true→p.dst=some d→i=j)(hwait: ∀e∈o.after,Region.binds .any e=true→done.getD e.on false=true)(ht:ts[i]? =some p0)(hun:done.getD i true=false)(hdep: ∀k∈p0.1,k=i∨done.getD k false=true)(hext:gW C w S w' S')(hC: ∀b,C b→E.base≤b∨E.B b)(hsat:jU w' S')(hown:du E.base E.B w' S' (N3 Ss c' σ'))(hσ: ∀k,k≠i→σ' k=σ k)(hv:(p0.at σ').p S' v)(hch: ∀k,es[k]? =some true→((done.setIfInBounds i true).getD k false=true↔gJ es k<c')):
  S8 E G L ts Ss es (done.setIfInBounds i true) (a.put o.dst v) w' S' σ' c' :=by
 have hlt:i<done.size:=by rw [h.dsz];exact(qW.1 hi).1
 have hset: ∀j,(done.setIfInBounds i true).getD j false=true→j=i∨done.getD j false=true:=fun j hj=>by
  by_cases hij:i=j
  ·exact .inl hij.symm
  ·rw [vw false hij]at hj;exact .inr hj
 have hseti:(done.setIfInBounds i true).getD i false=true:=by simp [hlt]
 have hun' :done.getD i false=false:=by simp [hlt]at hun ⊢;exact hun
 have hput: ∀k,(∀d,o.dst=some d→d≠k)→(a.put o.dst v).tmps.getD k undef=a.tmps.getD k undef:=fun k hk=>by
  cases hd:o.dst with
  |none=>rfl
  |some d=>
   have hda:d<a.tmps.size:=by rw [h.size];exact hdN d hd
   rw [rM hda,bM (hk d hd)]
 refine⟨h.ext.step hext hC,hsat,hown,?_,?_,by simp [h.dsz],fun j p hj hdone e he hb=>?_,fun k u hk hno=>?_,fun j p d' u hj hdone hd' hu=>?_,fun j u hj hu k hk=>?_,hch⟩
 ·cases o.dst with
  |none=>exact h.size
  |some d=>simp [Act.put,h.size]
 ·cases o.dst with
  |none=>exact h.defers
  |some d=>exact h.defers
 ·rcases hset j hdone with rfl|hj'
  ·rw [hi]at hj
   have:o=p:=by simpa using hj
   subst this
   exact vR (hwait e he hb)
  ·exact vR (h.down j p hj hj' e he hb)
 ·rw [hput k fun d hd e=>hno i o hi hseti (by rw [hd,e])]
  exact u.mono hext.keep (h.old k u hk fun j p hj hdone=>hno j p hj (vR hdone))
 ·by_cases hij:j=i
  ·subst hij
   rw [hi]at hj
   have:o=p:=by simpa using hj
   subst this
   have hda:d' <a.tmps.size:=by rw [h.size];exact hdN d' hd'
   rw [hd',rM hda,bS rfl]
   rw [ht]at hu
   have:p0=u:=by simpa using hu
   subst this
   exact hv
  ·have hj' :=(hset j hdone).resolve_left hij
   rw [hput d' fun d hd e=>by subst e;exact hij (hs2 d hd j p hj hj' hd').symm]
   have e1:u.at σ' =u.at σ:=congrArg u.2 (HI fun k hk=>hσ k fun e=>by
     subst e
     rw [h.deps j u hj' hu k hk]at hun';cases hun')
   rw [e1]
   exact Ty.mono _ hext.keep (h.new j p d' u hj hj' hd' hu)
 ·rcases hset j hj with rfl|hj'
  ·rw [ht]at hu
   have:p0=u:=by simpa using hu
   subst this
   rcases hdep k hk with rfl|h'
   ·exact hseti
   ·exact vR h'
  ·exact vR (h.deps j u hj' hu k hk)
end
theorem HS{l t:List Oper}{ts:List TS}{es:List Bool}(hsl:xo E.N.n [] l=true)(hlen:ts.length=l.length)(hesl:es.length=l.length)(hd:DS E G (l++t) ts Ss es 0 0 l es)(hch:KI (l++t) es=true)(ht:yW (l++t) l.length t.length=true)(hQ: ∀a w S σ,St E (N3 Ss (gJ es es.length) σ) (Ix l (Qt ts σ) G) a w S→wpListIn (fw E.r) 0 E.P (l++t).toArray Q t a w):
  ∀(fuel:Nat) (done:Array Bool) (a:Act) (w:World) (S:SH) (σ:Nat→OI) (c:Nat),mb done=fuel→(∀j,l.length≤j→done.getD j false=false)→c≤gJ es es.length→S8 E G (l++t) ts Ss es done a w S σ c→wpAnyIn (fw E.r) 0 E.P .any (l++t).toArray Q fuel done a w:=by
 have hL1: ∀i o,i<l.length→(l++t)[i]? =some o→l[i]? =some o:=fun i o hi h=>by rwa [xc hi]at h
 have hL2: ∀i o,l[i]? =some o→(l++t)[i]? =some o:=fun i o h=>by rw [xc (qW.1 h).1];exact h
 have htail: ∀m o,l.length≤m→(l++t)[m]? =some o→wE (l++t) m=true∧fD m o=true:=fun m o hm ho=>by
  have hml:m<(l++t).length:=(qW.1 ho).1
  rw [lw]at hml
  unfold yW at ht
  have:=pi.1 ht (m-l.length) (by simp;omega)
  rw [show l.length+(m-l.length)=m from by omega,ho]at this
  simp only [lH]at this
  exact⟨this.1,this.2.1⟩
 have hget:=fun i o (hi:l[i]? =some o)=>DS.get l es 0 0 hd i o hi
 have hedge: ∀i o,(l++t)[i]? =some o→fD i o=true:=fun i o hi=>by
  rcases lu i l.length with h|h
  ·obtain⟨_,_,_,_,_,_,_,h,_⟩:=hget i o (hL1 i o h hi)
   simpa using h
  ·exact(htail i o h hi).2
 obtain⟨hs1,hs2⟩:=B7 l [] hsl
 have fin: ∀fuel done a w S σ c,mb done=fuel→(∀j,l.length≤j→done.getD j false=false)→c≤gJ es es.length→S8 E G (l++t) ts Ss es done a w S σ c→(∀i,i<l.length→done.getD i false=true)→wpAnyIn (fw E.r) 0 E.P .any (l++t).toArray Q fuel done a w:=by
  intro fuel done a w S σ c hu hfree hcle h hall
  have hcc:c=gJ es es.length:=by
   rcases lu c (gJ es es.length)with hlt|hge
   ·obtain⟨i,h1,h2,h3⟩:=wF hlt
    have:=(h.chain i h2).1 (hall i (by omega))
    omega
   ·omega
  subst hcc
  refine zn (n:=l.length) (fun m o hm ho=>(htail m o hm ho).1) hedge t l.length done fuel a w (eW _) (by simp) h.dsz (fun j hj=>⟨fun hjd=>?_,fun hlt=>hall j hlt⟩) hu
   (hQ a w S σ ⟨h.ext,h.sat,h.own,h.size,h.defers,fun j u hj=>?_⟩)
  ·rcases lu j l.length with h' |h'
   ·exact h'
   ·rw [hfree j h']at hjd;cases hjd
  ·rcases FS l (Qt ts σ) j u (by unfold Qt;rw [List.length_map];exact hlen) hj with⟨i,o,h1,h2,h3⟩|⟨h1,h2⟩
   ·unfold Qt at h3
    rw [B2]at h3
    cases hf:ts[i]? with
    |none=>rw [hf]at h3;simp at h3
    |some f=>
     rw [hf]at h3
     have e:f.at σ=u:=by simpa using h3
     rw [←e]
     exact h.new i o j f (hL2 i o h1) (hall i (qW.1 h1).1) h2 hf
   ·refine h.old j u h1 fun i o ho hdn=>?_
    rcases lu i l.length with h' |h'
    ·exact h2 o (ta (hL1 i o h' ho))
    ·rw [hfree i h']at hdn;cases hdn
 have lower: ∀done a w S σ c i,(∀j,l.length≤j→done.getD j false=false)→S8 E G (l++t) ts Ss es done a w S σ c→i∈Region.ready .any (l++t).toArray done→l.length≤i→ ∀j,j<l.length→done.getD j false=true:=by
  intro done a w S σ c i hfree h hi hge j hj
  obtain⟨hun,p,hp,hwait⟩:=tR.1 hi
  have hp' :(l++t)[i]? =some p:=by simpa using hp
  have hcov:=(htail i p hge hp').1
  unfold wE at hcov
  have hre:=pi.1 hcov j (by simp;omega)
  exact gO h.down _ i j (fun q hq e he hb=>by
   have:q=p:=by rw [hp']at hq;simpa using hq.symm
   subst this
   exact hwait e he hb) hre
 have hchain: ∀i j,j<i→es[i]? =some true→es[j]? =some true→n7 (l++t) (l++t).length i j=true:=fun i j hij h1 h2=>by
  unfold KI at hch
  have hil:i<es.length:=(qW.1 h1).1
  have:=pi.1 (pi.1 hch i (by simpa using hil)) j (by simpa using hij)
  rw [h1,h2]at this
  simpa using this
 intro fuel
 induction fuel with
 |zero=>
  intro done a w S σ c hu hfree hcle h
  exact fin 0 done a w S σ c hu hfree hcle h fun i hi=>uD hu (by rw [h.dsz,lw];omega)
 |succ fuel ih=>
  intro done a w S σ c hu hfree hcle h
  by_cases hall: ∀i,i<l.length→done.getD i false=true
  ·exact fin _ done a w S σ c hu hfree hcle h hall
  have hready0: ∀m i,i<m→i<l.length→Region.ready .any (l++t).toArray done=[]→done.getD i false=true:=by
   intro m
   induction m with
   |zero=>intro i h;omega
   |succ m ihm=>
    intro i him hil hr
    have his:i<done.size:=by rw [h.dsz,lw];omega
    by_cases hdn:done.getD i true=true
    ·rw [←pc his];exact hdn
    ·exfalso
     obtain⟨o,ho⟩: ∃o,(l++t)[i]? =some o:=⟨l[i],hL2 i _ (q6 hil)⟩
     have hmem:i∈Region.ready .any (l++t).toArray done:=by
      rw [tR]
      refine⟨by simpa using hdn,o,by simpa using ho,fun e he hb=>?_⟩
      have:=hedge i o ho
      unfold fD at this
      have:=pi.1 this e (by simpa using he)
      simp only [hb,oh,wS,u9]at this
      exact ihm e.on (by omega) (by omega) hr
     rw [hr]at hmem;cases hmem
  refine⟨fun hr=>absurd (fun i hi=>hready0 (i+1) i (by omega) hi hr) hall,fun i hi=>?_⟩
  have hil:i<l.length:=by
   rcases lu i l.length with h' |h'
   ·exact h'
   ·exact absurd (lower done a w S σ c i hfree h hi h') hall
  obtain⟨hun,o,ho,hwait⟩:=tR.1 hi
  have ho' :(l++t)[i]? =some o:=by simpa using ho
  have hol:=hL1 i o hil ho'
  obtain⟨e,he,needs,u,h1,h2,h3,_,h4,h5⟩:=hget i o hol
  rw [q7]at h1 h3 h4
  have hF:=h.need ho' hun hwait h2 h3
  have his:i<done.size:=by rw [h.dsz,lw];omega
  have hun' :done.getD i false=false:=by rw [←pc his];exact hun
  have hu' :mb (done.setIfInBounds i true)=fuel:=by have:=q9 hun;omega
  have huq: ∀d,o.dst=some d→ ∀j p,(l++t)[j]? =some p→done.getD j false=true→p.dst=some d→i=j:=fun d hdd j p hj hjd hpd=>by
   rcases lu j l.length with h' |h'
   ·exact hs2 i j o p d hol (hL1 j p h' hj) hdd hpd
   ·rw [hfree j h']at hjd;cases hjd
  have hfree' : ∀j,l.length≤j→(done.setIfInBounds i true).getD j false=false:=fun j hj=>by
   rw [vw false (by omega)];exact hfree j hj
  have hbl:E.base≤w.heap.size:=h.ext.size
  have hwaits: ∀q,(l++t)[i]? =some q→ ∀e∈q.after,Region.binds .any e=true→done.getD e.on false=true:=fun q hq e he hb=>by
   have:q=o:=by rw [ho']at hq;simpa using hq.symm
   subst this
   exact hwait e he hb
  have hdpp: ∀k∈u.1,k=i∨done.getD k false=true:=fun k hk=>by
   have:=pi.1 h4 k hk
   simp only [lH,xa]at this
   rcases this.2 with hb|hb
   ·exact .inl (pj hb)
   ·exact .inr (gO h.down _ i k hwaits hb)
  have hdNN: ∀d,o.dst=some d→d<E.N.n:=fun d hd=>(hs1 o (ta hol) d hd).1
  unfold wpOpIn
  rw [ho]
  show if _ then _ else _
  cases e with
  |false=>
   simp only at h5
   obtain⟨hdS,lo,hi',hwin,h5⟩:=h5
   rw [q7]at hwin
   obtain⟨d,hdd⟩:=Option.isSome_iff_exists.1 hdS
   have hdN:=(hs1 o (ta hol) d hdd).1
   unfold TE at hwin
   rw [lH]at hwin
   obtain⟨hw1,hw2⟩:=hwin
   have hw1' :=pT hw1
   have hwk: ∀k,es[k]? =some true→(Nat.ble lo (gJ es k)=true∨n7 (l++t) (l++t).length i k=true)∧(Nat.blt (gJ es k) hi' =true∨n7 (l++t) (l++t).length k i=true):=fun k hk=>by
    have hkl:k<es.length:=(qW.1 hk).1
    have:=pi.1 hw2 k (by simpa using hkl)
    rw [hk]at this
    simpa using this
   have hlo:lo≤c:=by
    rcases lu c lo with hlt|hge
    ·exfalso
     obtain⟨k,hk1,hk2,hk3⟩:=wF (es:=es) (c:=c) (k:=es.length) (by omega)
     rcases(hwk k hk2).1 with hb|hb
     ·have:=pT hb;omega
     ·have:=(h.chain k hk2).1 (gO h.down _ i k hwaits hb)
      omega
    ·exact hge
   have hhi:c≤hi' :=by
    rcases lu hi' c with hlt|hge
    ·exfalso
     obtain⟨k,hk1,hk2,hk3⟩:=wF (es:=es) (c:=hi') (k:=es.length) (by omega)
     rcases(hwk k hk2).2 with hb|hb
     ·simp only [u9]at hb;omega
     ·have hkd:done.getD k false=true:=(h.chain k hk2).2 (by omega)
      have:=gO h.down _ k i (fun q hq e he hb=>h.down k q hq hkd e he hb) hb
      rw [this]at hun';cases hun'
    ·exact hge
   have h6:=h5 c σ hlo hhi a w S h.sat h.own hF
   have hch' : ∀k,es[k]? =some true→((done.setIfInBounds i true).getD k false=true↔gJ es k<c):=fun k hk=>by
    have hne:i≠k:=fun e=>by subst e;rw [he]at hk;cases hk
    rw [vw false hne];exact h.chain k hk
   by_cases hw:Region.wanted o (yielded (l++t).toArray a.tmps)=true
   ·rw [bS hw]at h6 ⊢
    refine lJ (fun a' w' ⟨v,S',ha,hx,hs,hv⟩=>?_) h6
    subst ha
    exact ih _ _ _ S' _ c hu' hfree' hcle (h.step ho' hdNN huq hwait h1 hun hdpp hx (fun _ hb=>hb.elim) hs (h.own.ext0 hx) (fun _ _=>rfl) hv hch')
   ·rw [bM hw]at h6 ⊢
    exact⟨fun _ _=>trivial,ih _ _ _ S _ c hu' hfree' hcle (h.step ho' hdNN huq hwait h1 hun hdpp (gF qq _ _) (fun _ hb=>hb.elim) h.sat h.own (fun _ _=>rfl) h6 hch')⟩
  |true=>
   simp only [q7]at h5
   -- it is the next one of the chain
   have hca:gJ es i=c:=by
    have hn: ¬gJ es i<c:=fun hlt=>by rw [(h.chain i he).2 hlt]at hun';cases hun'
    rcases lu c (gJ es i)with hlt|hge
    ·exfalso
     obtain⟨k,hk1,hk2,hk3⟩:=wF hlt
     have hkd:done.getD k false=true:=gO h.down _ i k hwaits (hchain i k hk1 he hk2)
     have:=(h.chain k hk2).1 hkd
     omega
    ·omega
   subst hca
   have h6:=h5 σ a w S h.sat h.own hF hbl
   have hch' : ∀k,es[k]? =some true→((done.setIfInBounds i true).getD k false=true↔gJ es k<gJ es i+1):=fun k hk=>by
    by_cases hik:i=k
    ·subst hik
     constructor
     ·intro _;omega
     ·intro _;simp [his]
    ·rw [vw false hik,h.chain k hk]
     constructor
     ·intro h;omega
     ·intro hlt
      rcases lu i k with hlk|hlk
      ·have:=Es hlk he;omega
      ·exact Es (by omega) hk
   have hcle' :gJ es i+1≤gJ es es.length:=Es (by omega) he
   by_cases hw:Region.wanted o (yielded (l++t).toArray a.tmps)=true
   ·rw [bS hw]at h6 ⊢
    refine lJ (fun a' w' ⟨v,S',x,ha,hx,hs,hown,hv⟩=>?_) h6
    subst ha
    exact ih _ _ _ S' _ _ hu' hfree' hcle' (h.step ho' hdNN huq hwait h1 hun hdpp hx (fun b ⟨f,hf,hb⟩=>(du.mem h.own f hf).2 b hb) hs hown (fun k hk=>Dp σ x hk) hv hch')
   ·rw [bM hw]at h6 ⊢
    obtain⟨x,hown,hv⟩:=h6
    exact⟨fun _ _=>trivial,ih _ _ _ S _ _ hu' hfree' hcle' (h.step ho' hdNN huq hwait h1 hun hdpp (gF qq _ _) (fun _ hb=>hb.elim) h.sat hown (fun k hk=>Dp σ x hk) hv hch')⟩
theorem iK{id:Nat}(m:Nat)(ts:List TS)(es:List Bool)(Ss:List ((Nat→OI)→List OE))(hO:Ss[0]? =some fun _=>O)(hm:E.P.follows .mixedOrders=true)(hsl:xo E.N.n [] (L.take m)=true)(hlen:ts.length=(L.take m).length)(hesl:es.length=(L.take m).length)(hch:KI L es=true)(ht:yW L (L.take m).length (L.drop m).length=true)(hd:DS E G L ts Ss es 0 0 (L.take m) es)(k: ∀σ:Nat→OI,RG E L.toArray Q (L.drop m) (N3 Ss (gJ es es.length) σ) (Ix (L.take m) (Qt ts σ) G)):CG E Q (.region id L.toArray true) O G:=fun a w S st=>by
 have hL:L=L.take m++L.drop m:=(vb m L).symm
 generalize L.take m=l at hL hsl hlen hesl ht hd k
 generalize L.drop m=t at hL ht k
 subst hL
 refine wpIn_region_any hm ?_
 obtain⟨he,hs⟩:=xZ (w:=w) st.sat
 have hO0:N3 Ss 0 (fun _=>nz)=O:=by unfold N3;rw [hO]
 refine HS hsl hlen hesl hd hch ht (fun a w S σ st=>k σ a w S st) _ _ _ _ S (fun _=>nz) 0 ?_ (fun j _=>?_) (iP _)
  ⟨st.ext.step0 he,hs,by rw [hO0];exact st.own.ext0 he,st.facts.size,st.facts.defers,by simp,fun j o hj hdone=>?_,fun k t hk _=>st.facts.at_ k t hk,fun j o d t hj hdone=>?_,fun j p hdone=>?_,fun k _=>⟨fun hdone=>?_,fun h=>(by omega)⟩⟩
 ·unfold mb;rw [K8,KY];simp
 ·simp [zf];split<;>rfl
 ·simp [zf]at hdone
  split at hdone<;>simp at hdone
 ·simp [zf]at hdone
  split at hdone<;>simp at hdone
 ·simp [zf]at hdone
  split at hdone<;>simp at hdone
 ·simp [zf]at hdone
  split at hdone<;>simp at hdone
theorem tU{p:Nat→(Nat→OI)→Prop}{lo:Nat}(h: ∀σ,p lo σ): ∀c σ,lo≤c→c≤lo→p c σ:=fun c σ h1 h2=>by
 have:c=lo:=by omega
 subst this;exact h σ
theorem vV{p:Nat→(Nat→OI)→Prop}{lo hi:Nat}(h: ∀σ,p lo σ)(k: ∀c σ,lo+1≤c→c≤hi→p c σ): ∀c σ,lo≤c→c≤hi→p c σ:=fun c σ h1 h2=>by
 by_cases e:c=lo
 ·subst e;exact h σ
 ·exact k c σ (by omega) h2
variable{post:OI→List OE}
theorem Em{op:Op}{ty:TypeId}(hnd: ∀c,op≠ .defer c)(h: ∀a w S,jU w S→du E.base E.B w S O→dr E.N S a G→E.base≤w.heap.size→ ∃w' S' x,(execOp a.eval ⟨none,op,ty,pos,after,g⟩).run E.P w= .ok .skip w' ∧gW (zI O) w S w' S' ∧jU w' S' ∧du E.base E.B w' S' (post x)):
  EffOK E O G ⟨none,op,ty,pos,after,g⟩ post (fun _=>Af):=fun a w S hs ho hf hb=>by
 obtain⟨w',S',x,h1,h2,h3,h4⟩:=h a w S hs ho hf hb
 refine⟨hnd,?_⟩
 rw [h1]
 exact⟨undef,S',x,rfl,h2,h3,h4,trivial⟩

abbrev HL:=List (Nat×Value)
def uU:HL→Nat→Option Value
 |[],_=>none
 |p::hs,o=>bif Nat.beq p.1 o then some p.2 else uU hs o
theorem yz: ∀{hs:HL} {o:Nat} {v:Value},uU hs o=some v→(o,v)∈hs
 |[],_,_,h=>by cases h
 |p::hs,o,v,h=>by
  unfold uU at h
  by_cases hb:Nat.beq p.1 o=true
  ·rw [hb]at h
   have e1:=pj hb
   have e2:p.2=v:=po h
   subst e1 e2
   exact iA ..
  ·rw [zW]at hb
   rw [hb]at h
   exact pS _ (yz h)
def rH{α:Type}(r:Rp α)(hs:HL):Rp α where
 sz:=r.sz
 agg:=r.agg
 rc:=fun S cs x=>r.rc S cs x∧ ∀p∈hs,cs[p.1]? =some p.2
 mono:=fun h k=>⟨r.mono h k.1,k.2⟩
 len:=fun k=>r.len k.1
 one:=fun k=>r.one k.1
 sc:=r.sc
theorem No{hs:HL}{get:α→β}(h:m9 r off q get):m9 (rH r hs) off q get:=fun S cs x k=>h S cs x k.1
theorem NC(h:cs[off]? =some v):(cs.drop off).take 1=[v]:=by
 have hlt:=(qW.1 h).1
 rw [r0 hlt,(qW.1 h).2]
 rfl
theorem Yl{hs:HL}(h:uU hs off=some v):m9 (rH r hs) off rV (fun _=>v):=fun S cs x k=>by
 have h1:=k.2 _ (yz h)
 exact⟨NC h1,r.one k.1 v (ta h1)⟩
def HZ(z:List Value):HL→Prop
 |[]=>True
 |p::hs=>z[p.1]? =some p.2∧HZ z hs
theorem HZ.all: ∀{hs:HL},HZ z hs→ ∀p∈hs,z[p.1]? =some p.2
 |_::_,⟨h,_⟩,_,.head _=>h
 |_::_,⟨_,h⟩,_,.tail _ hm=>HZ.all h _ hm
theorem zH{x:α}{hs:HL}(h: ∀S,r.rc S z x)(k:HZ z hs): ∀S,(rH r hs).rc S z x:=fun S=>⟨h S,k.all⟩
def T0(hs:HL)(off sz:Nat):Bool:=hs.all fun p=>Nat.blt p.1 off||Nat.ble (off+sz) p.1
def XV(hs:HL)(off sz:Nat)(v:Option Value):HL→Prop
 |[]=>True
 |p::l=>((v=some p.2∧p.1=off∧sz=1)∨(uU hs p.1=some p.2∧(Nat.blt p.1 off||Nat.ble (off+sz) p.1)=true))∧XV hs off sz v l
theorem XV.all{hs:HL}{v:Option Value}: ∀{l:HL},XV hs off sz v l→ ∀p∈l,(v=some p.2∧p.1=off∧sz=1)∨(uU hs p.1=some p.2∧(Nat.blt p.1 off||Nat.ble (off+sz) p.1)=true)
 |_::_,⟨h,_⟩,_,.head _=>h
 |_::_,⟨_,h⟩,_,.tail _ hm=>XV.all h _ hm
theorem Cs{ds:List Value}(hl:ds.length=sz)(hoff:off+sz≤cs.length)(h:(Nat.blt k off||Nat.ble (off+sz) k)=true):(cs.take off++ds++cs.drop (off+sz))[k]? =cs[k]? :=by
 simp only [xa,u9,Nat.ble_eq]at h
 have ht:(cs.take off).length=off:=by simp;omega
 rcases h with h|h
 ·rw [xc (by simp;omega),xc (by omega),Bg h]
 ·rw [sP (by simp;omega),xb]
  congr 1
  simp only [lw,ht,hl];omega
theorem PT{ds:List Value}(hd:ds=[v])(hoff:off+1≤cs.length):(cs.take off++ds++cs.drop (off+1))[off]? =some v:=by
 subst hd
 have ht:(cs.take off).length=off:=by simp;omega
 rw [xc (by simp;omega),sP (by omega),ht,vu]
 rfl
theorem Oy{hs:HL}(h:gu r off q set)(hk:T0 hs off q.sz=true)(hoff:Nat.ble (off+q.sz) r.sz=true):gu (rH r hs) off q set:=fun S cs x ds y h1 h2=>by
 refine⟨h S cs x ds y h1.1 h2,fun p hp=>?_⟩
 have hl:=r.len h1.1
 rw [Cs (q.len h2) (by have:=pT hoff;omega) (pi.1 hk p hp)]
 exact h1.2 _ hp
section
section
variable{ty:TypeId}
theorem u7{op:Op}{t:OI→Ty}(h:EffOK E O G ⟨none,op,ty,pos,after,none⟩ post t)(k: ∀x,RG E ops Q rest (post x) G):RG E ops Q (⟨none,op,ty,pos,after,none⟩::rest) O G:= .of rfl fun a w S st=>
 o5 (fun a' w' ⟨v,S',x,ha,hx,hs,ho,hv⟩=>by
  subst ha
  exact k x _ _ S' ⟨st.ext.step hx fun b ⟨f,hf,hb⟩=>(du.mem st.own f hf).2 b hb,hs,ho,st.facts.mono hx.keep⟩) (h a w S st.sat st.own st.facts st.base_le)
theorem mw{γ:Type}{r' :Rp γ}{x:α}{x' :γ}{p v:Operand}(ti:TI E.P U sz bytes agg z)(hsz:q.sz=sz)(hset:s8 r r' off q x y x')(hoff:Nat.ble (off+q.sz) r.sz=true)(hp:aZ E.N G p (tV (aM b off)))(hv:aZ E.N G v (tD q y)):EffOK E (bx r T b x::O) G ⟨none,.store U p v,ty,pos,after,g⟩ (fun _=>bx r' T b x' ::O) (fun _=>Af):=Em (fun _ h=>(by cases h)) fun a w S hs ho hf hb=>by
 have h1:a.eval p=aM b off:=hp S a hf
 obtain⟨ds,h2,h3⟩:=hv S a hf
 obtain⟨⟨hno,cur,h5,h6⟩,_⟩:=ho.1
 have hl:=r.len h6
 have hoff' :=pT hoff
 obtain⟨w',hr,e1,e2,e3,e4,e5,e6⟩:=lB ti hsz h3 h5 (off:=off) (by simp at hl;omega)
 have hrun:(execOp a.eval ⟨none,.store U p v,ty,pos,after,g⟩).run E.P w= .ok .skip w' :=by
  simp [execOp,h1,h2,Instr.storeAt,aM,Instr.sureAddr,hr]
 obtain⟨g1,g2,g3⟩:=rk (O:=O) hs (bx r T b x) (bx r' T b x') ho (fun _=>Iff.rfl) (fun _=>Iff.rfl) ⟨e1,e2,e3,e4.1,e4.2⟩ e6 ⟨hno,_,e5,by simpa using hset S _ _ h6 h3⟩ hno
 exact⟨w',S,nz,hrun,g1.more fun k hk=>⟨_,iA ..,hk⟩,g2,g3⟩
theorem um{hs hs' :HL}{x:α}{p v:Operand}(ti:TI E.P U 1 bytes false z)(hsz:q.sz=1)(hag:q.agg=false)(hset:gu r off q set)(hoff:Nat.ble (off+1) r.sz=true)(hk:XV hs off 1 (some u) hs')(hp:aZ E.N G p (tV (aM b off)))(hv:aZ E.N G v (tD q y))(hu:aZ E.N G v (tV u)):EffOK E (bx (rH r hs) T b x::O) G ⟨none,.store U p v,ty,pos,after,g⟩ (fun _=>bx (rH r hs') T b (set x y)::O) (fun _=>Af):=Em (fun _ h=>(by cases h)) fun a w S hsat ho hf hb=>by
 have h1:a.eval p=aM b off:=hp S a hf
 obtain⟨ds,h2,h3⟩:=hv S a hf
 have hu' :a.eval v=u:=hu S a hf
 obtain⟨⟨hno,cur,h5,h6⟩,_⟩:=ho.1
 have hl:=r.len h6.1
 have hoff' :=pT hoff
 have hdl:=q.len h3
 have hds:ds=[u]:=by
  obtain⟨d,hd⟩:=List.length_eq_one_iff.1 (by rw [hdl,hsz]:ds.length=1)
  subst hd
  have e1:q.val [d]=d:=by simp [Rp.val,hag]
  rw [h2,e1]at hu'
  rw [hu']
 obtain⟨w',hr,e1,e2,e3,e4,e5,e6⟩:=lB ti hsz h3 h5 (off:=off) (by simp at hl;omega)
 have hrun:(execOp a.eval ⟨none,.store U p v,ty,pos,after,g⟩).run E.P w= .ok .skip w' :=by
  simp [execOp,h1,h2,Instr.storeAt,aM,Instr.sureAddr,hr]
 rw [hsz]at e5
 have hnew:(rH r hs').rc S (cur.toList.take off++ds++cur.toList.drop (off+1)) (set x y):=by
  have h7:=hset S _ _ _ _ h6.1 h3
  rw [hsz]at h7
  refine⟨h7,fun p hp=>?_⟩
  rcases hk.all p hp with⟨f1,f2,_⟩|⟨f1,f2⟩
  ·rw [f2]
   exact PT (by rw [hds,po f1]) (by omega)
  ·rw [Cs (by rw [hdl,hsz]) (by omega) f2]
   exact h6.2 _ (yz f1)
 obtain⟨g1,g2,g3⟩:=rk (O:=O) hsat (bx (rH r hs) T b x) (bx (rH r hs') T b (set x y)) ho (fun _=>Iff.rfl) (fun _=>Iff.rfl) ⟨e1,e2,e3,e4.1,e4.2⟩ e6 ⟨hno,_,e5,by simpa using hnew⟩ hno
 exact⟨w',S,nz,hrun,g1.more fun k hk=>⟨_,iA ..,hk⟩,g2,g3⟩
end
section
variable{ty:TypeId}
theorem ON{hs:HL}{x:α}{p:Operand}(ti:TI E.P U 1 bytes false z)(hk:uU hs off=some u)(hm:bx (rH r hs) T b x∈O)(hp:aZ E.N G p (tV (aM b off))):
  cH E O G ⟨dst,.load U p,ty,pos,after,g⟩ (tV u):=(aA (q:=rV) ti rfl rfl (Yl hk) hm hp).imp fun _ _ h=>(vY.1 h).1
theorem eY{q:Rp α}{r:Rp β}{hs:HL}{x:β}{V:TypeId}{p:Operand}{l:Option Nat}(ti:TI E.P U 1 bytes false z)(hk:uU hs off=some (aV l cap xs.length))(hm:bx (rH r hs) T b x∈O)(hm2:tip q V l cap xs∈O)(hp:aZ E.N G p (tV (aM b off))):
  cH E O G ⟨dst,.load U p,ty,pos,after,g⟩ (tO q l cap xs):=fun a w S hs' ho hf=>
 o5 (fun _ _ ⟨v,S',h1,h2,h3,h4⟩=>⟨v,S',h1,h2,h3,h4,by
  have h5:v=aV l cap xs.length:=h4
  rw [h5]
  exact nE (((ho.ext0 h2).mem _ hm2).1)⟩) (ON (g:=g) (ty:=ty) (pos:=pos) (after:=after) (dst:=dst) ti hk hm hp a w S hs' ho hf)
theorem QT{t:Ty}(h1: ∀S v,t.p S v→v.oneCell' =true)(hx:aZ E.N G x t):cH E O G ⟨dst,.box T x,ty,pos,after,g⟩ (bt (rT t) ()):=
 Kj (fun S a hf=>X4.2 ⟨h1 _ _ (hx S a hf),hx S a hf⟩)
end
def QE:HL→HL→Prop
 |[],_=>True
 |p::l,hs=>uU hs p.1=some p.2∧QE l hs
theorem QE.all{hs:HL}: ∀{l:HL},QE l hs→ ∀p∈l,p∈hs
 |_::_,⟨h,_⟩,_,.head _=>yz h
 |_::_,⟨_,h⟩,_,.tail _ hm=>QE.all h _ hm
end

variable{O' :List OE}
theorem EffOK.perm{t:OI→Ty}(h:EffOK E O' G o post t)(k: ∀{w S},du E.base E.B w S O→du E.base E.B w S O')(m: ∀f∈O',f∈O):EffOK E O G o post t:=fun a w S hs ho hf hb=>
 o5 (fun _ _ ⟨v,S',x,h1,h2,h3,h4,h5⟩=>⟨v,S',x,h1,h2.more fun _ ⟨f,hf,hk⟩=>⟨f,m f hf,hk⟩,h3,h4,h5⟩) (h a w S hs (k ho) hf hb)
variable{x0 x4 x5:OE}
namespace EffOK
section
variable{t:OI→Ty}
theorem fr1(h:EffOK E (x1::x0::O) G o post t):EffOK E (x0::x1::O) G o post t:=h.perm (fun hw=>du.swap hw) (fun f hf=>by simp only [jl]at hf ⊢;rcases hf with h|h|h<;>simp [h])
theorem fr2(h:EffOK E (x2::x0::x1::O) G o post t):EffOK E (x0::x1::x2::O) G o post t:=h.perm (fun hw=>ut hw) (fun f hf=>by simp only [jl]at hf ⊢;rcases hf with h|h|h|h<;>simp [h])
theorem fr3(h:EffOK E (x3::x0::x1::x2::O) G o post t):EffOK E (x0::x1::x2::x3::O) G o post t:=h.perm (fun hw=>ur hw) (fun f hf=>by simp only [jl]at hf ⊢;rcases hf with h|h|h|h|h<;>simp [h])
theorem fr4(h:EffOK E (x4::x0::x1::x2::x3::O) G o post t):EffOK E (x0::x1::x2::x3::x4::O) G o post t:=h.perm (fun hw=>uq hw) (fun f hf=>by simp only [jl]at hf ⊢;rcases hf with h|h|h|h|h|h<;>simp [h])
theorem fr5(h:EffOK E (x5::x0::x1::x2::x3::x4::O) G o post t):EffOK E (x0::x1::x2::x3::x4::x5::O) G o post t:=h.perm (fun hw=>uo hw) (fun f hf=>by simp only [jl]at hf ⊢;rcases hf with h|h|h|h|h|h|h<;>simp [h])
theorem fr6{x6:OE}(h:EffOK E (x6::x0::x1::x2::x3::x4::x5::O) G o post t):EffOK E (x0::x1::x2::x3::x4::x5::x6::O) G o post t:=h.perm (fun hw=>wH hw) (fun f hf=>by simp only [jl]at hf ⊢;rcases hf with h|h|h|h|h|h|h|h<;>simp [h])
theorem fr7{x6 x7:OE}(h:EffOK E (x7::x0::x1::x2::x3::x4::x5::x6::O) G o post t):EffOK E (x0::x1::x2::x3::x4::x5::x6::x7::O) G o post t:=h.perm (fun hw=>wG hw) (fun f hf=>by simp only [jl]at hf ⊢;rcases hf with h|h|h|h|h|h|h|h|h<;>simp [h])
theorem post_imp{post' :OI→List OE}(h:EffOK E O G o post t)(k: ∀{w S x},du E.base E.B w S (post x)→du E.base E.B w S (post' x)):EffOK E O G o post' t:=fun a w S hs ho hf hb=>
 o5 (fun _ _ ⟨v,S',x,h1,h2,h3,h4,h5⟩=>⟨v,S',x,h1,h2,h3,k h4,h5⟩) (h a w S hs ho hf hb)
end
end EffOK
variable{ats:Array TypeId}{mm:Bool}
section
variable{ty:TypeId}
theorem KC{zs:List α}{y v:α}{i:Int}{p:Operand}(ti:TI E.P U sz bytes agg z)(hsz:r.sz=sz)(hy:dw xs i=some y)(hz:xs.set i.toNat v=zs)(hp:aZ E.N G p (tV (aM b (i.toNat*r.sz))))(hv:aZ E.N G x (tD r v)):EffOK E (bx (vh r n) T b xs::O) G ⟨none,.store U p x,ty,pos,after,g⟩ (fun _=>bx (vh r n) T b zs::O) (fun _=>Af):=Em (fun _ h=>(by cases h)) fun a w S hsat hown hf hbase=>by
 subst hz
 have h1:a.eval p=aM b (i.toNat*r.sz):=hp S a hf
 obtain⟨ds,h2,h3⟩:=hv S a hf
 obtain⟨⟨hno,cur,h5,h6⟩,_⟩:=hown.1
 obtain⟨h0,hy'⟩:=lW hy
 have hlt:i.toNat<xs.length:=(qW.1 hy').1
 have hl:=n8 h6.2
 simp only [Dj]at hl
 have hmul:i.toNat*r.sz+r.sz≤xs.length*r.sz:=by rw [←Nat.succ_mul];exact CA _ hlt
 obtain⟨w',hr,e1,e2,e3,e4,e5,e6⟩:=lB ti hsz h3 h5 (off:=i.toNat*r.sz) (by omega)
 have hrun:(execOp a.eval ⟨none,.store U p x,ty,pos,after,g⟩).run E.P w= .ok .skip w' :=by
  simp [execOp,h1,h2,Instr.storeAt,aM,Instr.sureAddr,hr]
 obtain⟨g1,g2,g3⟩:=rk (O:=O) hsat (bx (vh r n) T b xs) (bx (vh r n) T b (xs.set i.toNat v)) hown (fun _=>Iff.rfl) (fun _=>Iff.rfl) ⟨e1,e2,e3,e4.1,e4.2⟩ e6 ⟨hno,_,e5,by rw [List.length_set];exact h6.1,GL h3 h6.2 hlt⟩ hno
 exact⟨w',S,nz,hrun,g1.more fun c hc=>⟨_,iA ..,hc⟩,g2,g3⟩

section
theorem ev{x:α}(ti:TI E.P T sz bytes agg z)(hx: ∀S,r.rc S z x):
  EffOK E O G ⟨some d,.alloc T,ty,pos,after,g⟩ (fun i=>bx r T (i.h 0).2 x::O) (fun i=>tV (aM (i.h 0).2 0)):=fun a w S hs ho hf hb=>by
 obtain⟨zv,hzr,hzc⟩:=ti.zero w
 obtain⟨he,hs',hno⟩:=f9 (w:=w) (.cells z.toArray T (0,0)) hs
 have hrun:(execOp a.eval ⟨some d,.alloc T,ty,pos,after,g⟩).run E.P w= .ok (.value (aM w.heap.size 0)) (w.alloc (.cells z.toArray T (0,0))):=by
  simp [execOp,Instr.alloc,hzr,newVar,newRow,hzc,aM]
 refine⟨fun c h=>(by cases h),?_⟩
 rw [hrun]
 exact⟨_,S,oi none w.heap.size,rfl,he.more fun _ hb=>hb.elim,hs',pO ho he (e:=bx r T w.heap.size x) ⟨hno,z.toArray,Cx w _,by simpa using hx S⟩ (fun b hb=>yR hb.symm) hb,rfl⟩
theorem Ga{xs:List Operand}(hc:av E.P f=true)(hs:gK E.P f ts false r T ys)(hx:jE E.N G xs ts):
  EffOK E O G ⟨some d,.call ⟨.value (.func f),xs.toArray,ats⟩,ty,pos,after,g⟩ (fun i=>ga r T (i.h 0).1 (i.h 0).2 ys::O) (fun i=>tV (aV (i.h 0).1 (i.h 0).2 ys.length)):=F9 (mm:=false) hc hs hx (fun _ _ _ _ _=>rfl)
end
section
theorem gI{l:Option Nat}{o i:Nat}{y:α}{j:Int}{p:Operand}(hf:cB E.P T i=some (off,sz))(h0:Nat.beq sz 0=false)(hm:m6 mm r U l cap xs∈O)(hy:dw xs j=some y)(hp:aZ E.N G p (tV (ol l o)))(he:o+off=n):
  cH E O G ⟨dst,.fieldAddr T p i,ty,pos,after,g⟩ (tV (ol l n)):=by
 subst he
 exact EV hf h0 hm hy hp
theorem eJ(hx:aZ E.N G x (tV (aM b off))):cH E O G ⟨dst,.nilCheck x,ty,pos,after,g⟩ (tV (aM b off)):= .of_pure fun a w S _ _ hf=>by
 have h1:a.eval x=aM b off:=hx S a hf
 exact⟨aM b off,by simp [execOp,h1,aM],rfl⟩
theorem GT{y:α}(hx:aZ E.N G x (bt r y)):cH E O G ⟨dst,.nilCheck x,ty,pos,after,g⟩ (bt r y):= .of_pure fun a w S _ _ hf=>by
 have h0:=hx S a hf
 obtain⟨b,off,c,U,fr,h1,h2,h3⟩:=h0
 exact⟨_,by simp [execOp,h1],b,off,c,U,fr,rfl,h2,h3⟩
theorem ue{p:Operand}(ti:TI E.P U 1 bytes false z)(hm:bx rV T b u∈O)(hp:aZ E.N G p (tV (aM b 0))):
  cH E O G ⟨dst,.load U p,ty,pos,after,g⟩ (tV u):=(aA (q:=rV) (get:=fun x=>x) ti rfl rfl aR hm hp).imp fun _ _ h=>(vY.1 h).1
theorem lR{t:Ty}{p:Operand}(ti:TI E.P U 1 bytes false z)(hp:aZ E.N G p (bt (rT t) ())):cH E O G ⟨dst,.load U p,ty,pos,after,g⟩ t:=Ay ti hp
end
theorem A3(h:O=O')(k:RG E ops Q rest O' G):RG E ops Q rest O G:=by subst h;exact k
theorem Qr(h:O=O')(k:AT E Q e O' G):AT E Q e O G:=by subst h;exact k
theorem hW{N:Fr}(h:aZ N G x (tV u))(ho:u.oneCell' =true):aZ N G x (tD rV u):=fun S a hf=>vY.2 ⟨h S a hf,ho⟩
end

theorem HX{l:Option Nat}{t' e' :TypeId}(ht:P.underlying t' =some (.slice e'))(h:BN mm r U l cap xs w S)(hs:fy xs lo (xs.length:Int)=some ys):
  ∃news,Src P r.sz t' (ot r.sz l cap lo.toNat ys.length) ys.length news w∧vt r S news ys:=by
 obtain⟨cells,h1,h2,_⟩:=h
 obtain⟨lo',m,rfl,hm,h3,h4,rfl⟩:=iC hs
 have hm' :m=xs.length:=by omega
 subst hm'
 rw [BZ,yG]
 cases l with
 |none=>
  have hx:xs=[]:=vv h1.1
  subst hx
  exact⟨[],by simpa [ot] using Src.ofNil w ht 0,by simp [vt]⟩
 |some b=>
  obtain⟨cur,g1,g2,g3,g4,g5⟩:=h1
  have hlen:(xs.drop lo').length=xs.length-lo' :=by simp
  have hcl:=n8 h2
  have hsp:xs=xs.take lo' ++xs.drop lo' :=(vb lo' xs).symm
  have htl:(xs.take lo').length=lo' :=by simp;omega
  have hr:vt r S (cells.drop (lo' *r.sz)) (xs.drop lo'):=by
   rw [hsp]at h2
   have:=(rj h2).2
   rwa [htl]at this
  have hmul:lo' *r.sz≤xs.length*r.sz:=CA _ h3
  refine⟨cells.drop (lo' *r.sz),?_,hr⟩
  unfold ot
  refine Src.ofSlice w ht _ _ _ _ (n8 hr) (fun j u hu=>?_) (CZ hr)
  by_cases hc:cap=lo'
  ·have:xs.drop lo' =[]:=vc (by omega)
   rw [this]at hr
   have hr' :cells.drop (lo' *r.sz)=[]:=hr
   rw [hr']at hu;simp at hu
  ·simp only [hc,ji]
   rw [jS,AX g1]
   rw [xb,←g5]at hu
   have hj:lo' *r.sz+j<xs.length*r.sz:=by
    have:=(qW.1 hu).1
    simp at this;omega
   rw [Bg hj]at hu
   simpa using hu
section
variable{ty:TypeId}
theorem NN{l:Option Nat}{yt e:TypeId}(ht:E.P.underlying t=some (.slice e))(hm:m6 mm r U l cap xs∈O)(hs:fy xs lo (xs.length:Int)=some ys)(hx:aZ E.N G x (tV (ot r.sz l cap lo.toNat ys.length)))(hd:Nat.blt d E.N.n=true)(k: ∀b,(b=true→ys=[])→RG E ops Q rest O ((d,tD rB b)::G)):RG E ops Q (⟨some d,.binOp .eql t x (.const (.slice none 0 0)) yt,ty,pos,after,none⟩::rest) O G:= .of rfl fun a w S st=>by
 have h1:a.eval x=ot r.sz l cap lo.toNat ys.length:=hx S a st.facts
 obtain⟨⟨cells,hraw,_⟩,_⟩:=st.own.mem _ hm
 have hcn:a.eval (.const (.slice none 0 0))= .slice none 0 0:=rfl
 cases l with
 |none=>
  have hx0:xs=[]:=vv hraw.1
  have hy0:ys=[]:=by
   obtain⟨lo',m,_,_,_,_,rfl⟩:=iC hs
   subst hx0;simp
  have h3:(Op.equal t (.slice none 0 0) (.slice none 0 0)).run E.P w= .ok true w:=CY fun d=>by
   simp [Op.equalIn,kH ht]
  have hrun:(execOp a.eval ⟨some d,.binOp .eql t x (.const (.slice none 0 0)) yt,ty,pos,after,none⟩).run E.P w= .ok (.value (.bool true)) w:=by
   simp [execOp,h1,ot,hcn,eqGuard,binOp,h3]
  refine⟨fun c h=>(by cases h),?_⟩
  rw [hrun]
  exact k true (fun _=>hy0) _ _ S (st.step (gF _ _ _) st.sat hd (ju.2 rfl))
 |some b=>
  obtain⟨ad,hv⟩: ∃ad,ot r.sz (some b) cap lo.toNat ys.length= .slice (some ad) ys.length (cap-lo.toNat):=⟨_,rfl⟩
  have h3:(Op.equal t (.slice (some ad) ys.length (cap-lo.toNat)) (.slice none 0 0)).run E.P w= .ok false w:=CY fun d=>by
   simp [Op.equalIn,kH ht]
  have hrun:(execOp a.eval ⟨some d,.binOp .eql t x (.const (.slice none 0 0)) yt,ty,pos,after,none⟩).run E.P w= .ok (.value (.bool false)) w:=by
   simp [execOp,h1,hv,hcn,eqGuard,binOp,h3]
  refine⟨fun c h=>(by cases h),?_⟩
  rw [hrun]
  exact k false (fun e=>(by cases e)) _ _ S (st.step (gF _ _ _) st.sat hd (ju.2 rfl))
theorem KP{t' :TypeId}{l l2:Option Nat}{cap2:Nat}{zs us:List α}{y:Operand}(ti:TI E.P T sz bytes agg z)(hsz:r.sz=sz)(hz:Nat.beq z.length sz=true)(h0:Nat.blt 0 sz=true)(h128:Nat.ble bytes 2048=true)(ht:E.P.underlying t=some (.slice T))(ht' :t' =t)(hd:Nat.blt d E.N.n=true)(hx:aZ E.N G x (tV (aV l cap n)))(hm:m6 mm r U l2 cap2 us∈ga r T l cap xs::O)(hs:fy us lo (us.length:Int)=some ys)(hy:aZ E.N G y (tV (ot r.sz l2 cap2 lo.toNat ys.length)))(happ:kq xs ys=some zs)(k: ∀l' cap',RG E ops Q rest (ga r T l' cap' zs::O) ((d,tV (aV l' cap' zs.length))::G))(hn:n=xs.length:=by rfl):
  RG E ops Q (⟨some d,.call ⟨.builtin .append,#[x,y],#[t,t']⟩,ty,pos,after,none⟩::rest) (ga r T l cap xs::O) G:=by
 subst ht'
 exact zO (u:=fun cap' l' =>tV (aV l' cap' zs.length)) ti hsz hz h0 h128 ht hd hx (fun a w S st=>by
  have h1:a.eval y=ot r.sz l2 cap2 lo.toNat ys.length:=hy S a st.facts
  rw [h1]
  exact HX ht (st.own.mem _ hm).1 hs) happ (fun _ _ _ _ _=>rfl) k hn
end

abbrev Mo(α X:Type):=(σ:Type)→(α→σ→Option (Bool×σ))→σ→Option (σ×X)
def Mp(P:Program){α X:Type}(args:α→List Ty)(it:Mo α X)(Ob:X→OI→List OE)(fid:FuncId)(cap:Array Value)(fp:Nat→Prop)(w:World)(S:SH):Prop:=
 ∀(σ:Type) (y:α→σ→Option (Bool×σ)) (s:σ) (R:σ×X),it σ y s=some R→ ∀I yv,Vk P args y I yv→ ∀e,I s e→e.p w S→(∀k,e.fp k→ ¬fp k)→
  Calls P fid (#[yv]++cap) w fun en w' => ∃e' S' j,(∃v,en= .returned v)∧I R.1 e' ∧gW (fun k=>e.fp k∨fp k) w S w' S' ∧jU w' S' ∧e'.p w' S' ∧du 0 qq w' S' (Ob R.2 j)∧(∀k,e'.fp k∨zI (Ob R.2 j) k→(e.fp k∨fp k)∨w.heap.size≤k)∧ ∀k,e'.fp k→ ¬zI (Ob R.2 j) k
def GY(P:Program){α X:Type}(args:α→List Ty)(it:Mo α X)(Ob:X→OI→List OE)(v:Value)(fp:Nat→Prop):OE where
 fp:=fp
 p:=fun w S=>(∀k,fp k→k<w.heap.size)∧ ∃fid cap,v= .func (.func fid) #[] cap∧av P fid=true∧
  ∀C w' S',gW C w S w' S' →(∀k,fp k→ ¬C k)→jU w' S' →Mp P args it Ob fid cap fp w' S'
 here:=fun h k hk=>h.1 k hk
 kept:=by
  rintro C w w' S S' ⟨h1,fid,cap,h2,h3,h4⟩ k hC
  refine⟨fun b hb=>wU (h1 b hb) k.size,fid,cap,h2,h3,fun C' w'' S'' k' hC' hs=>?_⟩;exact h4 (fun b=>C b∨C' b) w'' S'' ((k.more fun b hb=> .inl hb).trans (k'.more fun b hb=> .inr hb)) (fun b hb h=>h.elim (hC b hb) (hC' b hb)) hs
def VP:Unit→OI→List OE:=fun _ _=>[]
def itU{α:Type}(it:It α):Mo α Unit:=fun σ y s=>(it σ y s).map fun r=>(r,())
variable{args:α→List Ty}{s:jb}
theorem VT{it:It α}(h:(SJ P args it v fp).p w S):(GY P args (itU it) VP v fp).p w S:=by
 obtain⟨h1,fid,cap,h2,h3,h4⟩:=h
 refine⟨h1,fid,cap,h2,h3,fun C w' S' k hC hs σ y s R hit I yv hy e he hep hap=>?_⟩
 unfold itU at hit
 cases hq:it σ y s with
 |none=>rw [hq]at hit;cases hit
 |some s' =>
  rw [hq]at hit
  obtain rfl:(s',())=R:=by simpa using hit
  refine(h4 C w' S' k hC hs σ y s s' hq I yv hy e he hep hap).mono ?_
  rintro en w2 ⟨e',S2,g1,g2,g3,g4,g5,g6⟩
  exact⟨e',S2,nz,g1,g2,g3,g4,g5,trivial,fun k hk=>hk.elim (fun h=>(g6 k h).imp .inl id) (fun⟨_,h,_⟩=>by cases h),fun k _ ⟨_,h,_⟩=>by cases h⟩
section
variable{it:It α}
theorem Vm(h:CG E Q c (GY P args (itU it) VP v fp::O) G):CG E Q c (SJ P args it v fp::O) G:=fun a w S st=>h a w S (st.own_map fun⟨⟨g1,g2⟩,g3,g4⟩=>⟨⟨VT g1,g2⟩,g3,g4⟩)
end

def A5(P:Program)(fid:FuncId){α X:Type}(args:α→List Ty)(it:Mo α X)(Ob:X→OI→List OE)(O:List OE)(cts:List Ty):Prop:=
 ∀w S cap,jU w S→du 0 qq w S O→wZ S cts cap→Mp P args it Ob fid cap.toArray (zI O) w S
def PM(E:En){σ X:Type}(I:σ→OE→Prop)(R:σ×X)(Ob:X→OI→List OE):Ending→World→Prop:=fun en w' => ∃e' S' j,(∃v,en= .returned v)∧I R.1 e' ∧gW E.B E.w0 E.S0 w' S' ∧jU w' S' ∧e'.p w' S' ∧du 0 qq w' S' (Ob R.2 j)∧(∀k,e'.fp k∨zI (Ob R.2 j) k→E.B k∨E.w0.heap.size≤k)∧ ∀k,e'.fp k→ ¬zI (Ob R.2 j) k
variable{Ob:X→OI→List OE}
theorem A5.of{it:Mo α X}{cts:List Ty}(hf:P.funcs[f]? =some fn)(hb:fn.body=some c)(hN:fn.ntmps=N)(hn:Nat.ble (cts.length+1) N=true)(h: ∀(σ:Type) (y:α→σ→Option (Bool×σ)) (s:σ) (R:σ×X),it σ y s=some R→ ∀I yv,Vk P args y I yv→ ∀e,I s e→ ∀w0 S0 B,(∀k,B k→e.fp k∨ ∃f∈O,f.fp k)→
   CG ⟨P,⟨N,[]⟩,B,w0,S0,none⟩ (bodyPost P fn (PM ⟨P,⟨N,[]⟩,B,w0,S0,none⟩ I R Ob)) c (e::O) (uT 0 (tV yv::cts))):A5 P f args it Ob O cts:=by
 subst hN
 intro w S cap hs ho hc σ y s R hit I yv hy e he hep hap
 have hown:du w.heap.size (fun k=>e.fp k∨ ∃f∈O,f.fp k) w S (e::O):=
  ⟨⟨hep,fun k hk=> .inr (.inl hk)⟩,fun f hf b hb hfb=>hap b hb ⟨f,hf,hfb⟩,lG ho fun f hf k hk=> .inr (.inr ⟨f,hf,hk⟩)⟩
 have hfacts:=oN (S:=S) (ts:=tV yv::cts) (vs:=yv::cap) ⟨rfl,hc⟩ fn.ntmps (by simpa using pT hn)
 have:=lj.1 (Dg (F:=fw none) (n:=0) hf hb trivial (h σ y s R hit I yv hy e he w S (fun k=>e.fp k∨ ∃f∈O,f.fp k) (fun _ h=>h) _ w S ⟨gF _ _ _,hs,hown,hfacts⟩))
 rw [show(#[yv]++cap.toArray:Array Value)=(yv::cap).toArray from by simp]
 exact this.mono fun en w' ⟨e',S',j,h1,h2,h3,h4,h5,h6,h7,h8⟩=>⟨e',S',j,h1,h2,h3,h4,h5,h6,h7,h8⟩
theorem JB{I:σ→OE→Prop}{R:σ×X}{e:OE}(hr:fn.results= #[])(he:I R.1 e)(j:OI)(hO:O=Ob R.2 j):
  AT ⟨P,⟨N,[]⟩,B,w0,S0,none⟩ (bodyPost P fn (PM ⟨P,⟨N,[]⟩,B,w0,S0,none⟩ I R Ob)) .ret (e::O) G:=fun _ _ S st=>by
 subst hO
 refine⟨st.facts.defers,_,vz P fn hr _ _,e,S,j,⟨_,rfl⟩,he,st.ext,st.sat,st.own.1.1,st.own.2.2.weak,fun k hk=>?_,fun k hk ⟨f,hf,hfk⟩=>st.own.2.1 f hf k hk hfk⟩
 rcases hk with hk|⟨f,hf,hk⟩
 ·exact(st.own.1.2 k hk).symm
 ·exact((du.mem st.own.2.2 f hf).2 k hk).symm
theorem NZ{I:σ→OE→Prop}{R:σ×X}{e:OE}(hr:fn.results= #[])(he:I R.1 e)(j:OI)(hO:O=Ob R.2 j):
  AT ⟨P,⟨N,[]⟩,B,w0,S0,none⟩ (bodyPost P fn (PM ⟨P,⟨N,[]⟩,B,w0,S0,none⟩ I R Ob)) .normal (e::O) G:=fun a w S st=>JB hr he j hO a w S st
def A1(P:Program)(f:FuncId)(ts:List Ty)(O1:List OE){α X:Type}(args:α→List Ty)(it:Mo α X)(Ob:X→OI→List OE):Prop:=
 ∀w S vs,jU w S→wZ S ts vs→du 0 qq w S O1→Calls P f vs.toArray w fun e w' => ∃v fp S',e= .returned v∧gW (zI O1) w S w' S' ∧jU w' S' ∧(GY P args it Ob v fp).p w' S' ∧ ∀k,fp k→zI O1 k∨w.heap.size≤k
def PL(E:En)(O1:List OE){α X:Type}(args:α→List Ty)(it:Mo α X)(Ob:X→OI→List OE):Ending→World→Prop:=fun e w' => ∃v fp S',e= .returned v∧gW E.B E.w0 E.S0 w' S' ∧jU w' S' ∧(GY E.P args it Ob v fp).p w' S' ∧ ∀k,fp k→zI O1 k∨E.w0.heap.size≤k
variable{O1:List OE}
theorem A1.of{it:Mo α X}(hf:P.funcs[f]? =some fn)(hb:fn.body=some c)(hN:fn.ntmps=N)(hn:Nat.ble ts.length N=true)(h: ∀w0 S0,CG ⟨P,⟨N,[]⟩,zI O1,w0,S0,none⟩ (bodyPost P fn (PL ⟨P,⟨N,[]⟩,zI O1,w0,S0,none⟩ O1 args it Ob)) c O1 (uT 0 ts)):A1 P f ts O1 args it Ob:=by
 subst hN
 intro w S vs hs hv ho
 exact lj.1 (Dg (F:=fw none) (n:=0) hf hb trivial (h w S _ w S ⟨gF _ _ _,hs,lG ho fun f hf k hk=> .inr ⟨f,hf,hk⟩,oN hv _ (pT hn)⟩))
theorem NY{it:Mo α X}(hr:fn.results= #[.tmp k])(hk:look G k=some (tV v)):
  AT ⟨P,⟨N,[]⟩,zI O1,w0,S0,none⟩ (bodyPost P fn (PL ⟨P,⟨N,[]⟩,zI O1,w0,S0,none⟩ O1 args it Ob)) .ret (GY P args it Ob v fp::O) G:=fun a w S st=>by
 have hv:a.tmps.getD k undef=v:=st.facts.at_ k _ hk
 exact⟨st.facts.defers,_,lC P fn k hr _ _,v,fp,S,by rw [hv],st.ext,st.sat,st.own.1.1,fun k hk=>(st.own.1.2 k hk).symm⟩
section
variable{ty:TypeId}
theorem KO{xs:List Operand}(O1 Or:List OE){it:Mo α X}(hO:O=O1++Or)(hc:av E.P f=true)(hs:A1 E.P f ts O1 args it Ob)(hx:jE E.N G xs ts)(hd:Nat.blt d E.N.n=true)(k: ∀v fp,RG E ops Q rest (GY E.P args it Ob v fp::Or) ((d,tV v)::G)):
  RG E ops Q (⟨some d,.call ⟨.value (.func f),xs.toArray,ats⟩,ty,pos,after,none⟩::rest) O G:= .of rfl fun a w S st=>by
 subst hO
 have hr:(execOp a.eval ⟨some d,.call ⟨.value (.func f),xs.toArray,ats⟩,ty,pos,after,none⟩).run E.P w= .ok (.enter f (xs.map a.eval).toArray) w:=by
  simp [execOp,resolve,Act.eval,Deferred.ofValue,invoke,gL hc]
 refine⟨fun c h=>(by cases h),?_⟩
 rw [hr]
 refine(hs w S _ st.sat (hx.tys st.facts) (nV st.own).1.weak).mono fun e w' ⟨v,fp,S',he,h1,h2,h3,h4⟩=>⟨_,he,?_⟩
 have st' :=st.turn (O2:=[GY E.P args it Ob v fp]) h1 h2 ⟨⟨h3,fun _ _=> .inl (iP _)⟩,fun _ h=>(by cases h),trivial⟩ (fun k ⟨f,hf,hk⟩=>by
  rw [tQ.1 hf]at hk;exact h4 k hk)
 exact k v fp _ _ S' (st'.put hd rfl)
theorem Hy{fid:FuncId}{O2:List OE}{it:Mo α X}{cts:List Ty}{caps:List Operand}(hO:O=O1++O2)(hc:av E.P fid=true)(hs:A5 E.P fid args it Ob O1 cts)(hcap:jE E.N G caps cts)(hd:Nat.blt d E.N.n=true)(k: ∀v fp,RG E ops Q rest (GY E.P args it Ob v fp::O2) ((d,tV v)::G)):
  RG E ops Q (⟨some d,.makeFunc (.func fid) #[] caps.toArray,ty,pos,after,none⟩::rest) O G:= .of rfl fun a w S st=>by
 subst hO
 have hr:(execOp a.eval ⟨some d,.makeFunc (.func fid) #[] caps.toArray,ty,pos,after,none⟩).run E.P w= .ok (.value (.func (.func fid) #[] (caps.map a.eval).toArray)) w:=by simp [execOp,Instr.makeFunc]
 refine⟨fun c h=>(by cases h),?_⟩
 rw [hr]
 obtain⟨h1,h2,h3⟩:=nV st.own
 have hcv:=hcap.tys st.facts
 refine k (.func (.func fid) #[] (caps.map a.eval).toArray) (zI O1) _ _ S ⟨st.ext,st.sat,?_,st.facts.put hd rfl⟩;refine du.cons ⟨⟨fun b ⟨f,hf,hb⟩=>f.here (du.mem h1 f hf).1 b hb,fid,_,rfl,hc,fun C w' S' he hC hs' =>?_⟩,fun b ⟨f,hf,hb⟩=>(du.mem h1 f hf).2 b hb⟩ (fun f hf b ⟨g,hg,hb⟩=>h3 g hg f hf b hb) h2;exact hs w' S' _ hs' (h1.weak.ext he fun f hf b hb=>hC b ⟨f,hf,hb⟩) (hcv.mono he.keep)
end

def sS(l:Nat)(r:Loop)(st:LoopState)(pd:Option Code):OE where
 fp:=fun k=>k=l
 p:=fun w S=>S l=none∧w.heap[l]? =some (.loop {r with state:=st,pending:=pd})
 here:=by
  intro w S h k hk
  subst hk
  exact(vd.1 h.2).1
 kept:=by
  intro C w w' S S' h k hC
  have hlt:=(vd.1 h.2).1
  exact⟨by rw [k.old l hlt (hC l rfl)];exact h.1,by rw [k.heap l hlt (hC l rfl)];exact h.2⟩
def SC(j:Option Nat):LoopState:=if j.isNone then .ready else .done
def QI(E:En)(l:Nat)(rec:Loop){σ ι:Type}(Oi:ι→List OE)(dat:ι→σ)(jc:Nat→Code)(r:Option Nat×σ):Ending→World→Prop:=fun en w' =>
 ∃i S',en= .returned (.bool r.1.isNone)∧dat i=r.2∧gW E.B E.w0 E.S0 w' S' ∧jU w' S' ∧du E.base E.B w' S' (sS l rec (SC r.1) (r.1.map jc)::Oi i)
def y8{α σ:Type}(f:α→σ→Option (Option Nat×σ)):α→Option Nat×σ→Option (Bool×(Option Nat×σ)):=fun x s=>
 match s.1 with
 |some _=>none
 |none=>(f x s.2).map fun r=>(r.1.isNone,r)
variable{rec:Loop}{ι:Type}
section
theorem Ax{l:Nat}{st st' :LoopState}{pd pd' :Option Code}{O:List OE}(h:du base B w S (sS l rec st pd::O))(hs:jU w S):
  gW (fun k=>k=l) w S (w.putObj l (.loop {rec with state:=st',pending:=pd' })) S∧jU (w.putObj l (.loop {rec with state:=st',pending:=pd' })) S∧du base B (w.putObj l (.loop {rec with state:=st',pending:=pd' })) S (sS l rec st' pd' ::O):=by
 obtain⟨hno,hl⟩:=h.1.1
 have hlt:=(vd.1 hl).1
 have hext:gW (fun k=>k=l) w S (w.putObj l (.loop {rec with state:=st',pending:=pd' })) S:=⟨rfl,rfl,rfl,eW _,by simp,fun k _ hk=>World.putObj_heap_other hk,SH.le_refl _,fun _ _ _=>rfl⟩
 refine⟨hext,hs.same fun k o hk=>?_,⟨⟨hno,World.putObj_heap_same hlt⟩,h.1.2⟩,h.2.1,h.2.2.ext hext fun g hg k hk hkl=>h.2.1 g hg k hkl hk⟩
 have hne:k≠l:=fun e=>by subst e;rw [hno]at hk;cases hk
 exact World.putObj_heap_other hne
theorem Gs{l:Nat}{body:Code}{R:Ending→World→Prop}(h:CG E (roundPost E.P l R) body (sS l rec .busy none::O) G):AT E (Sp E l body R) .normal (sS l rec .ready none::O) G:=fun a w S st=>by
 obtain⟨h1,h2,h3⟩:=Ax (st' := .busy) (pd' :=none) st.own st.sat
 obtain⟨_,hl⟩:=st.own.1.1
 exact⟨_,run_beginRound hl rfl,h a _ S ⟨st.ext.step h1 (fun c hc=>st.own.1.2 c hc),h2,h3,st.facts⟩⟩
theorem HC{l:Nat}{Oi:ι→List OE}{dat:ι→σ}{jc:Nat→Code}{s2:σ}(i:ι)(hi:dat i=s2)(hO:O=Oi i):AT E (roundPost E.P l (QI E l rec Oi dat jc (none,s2))) .normal (sS l rec .busy none::O) G:=fun a w S st=>by
 subst hO
 obtain⟨h1,h2,h3⟩:=Ax (st' := .ready) (pd' :=none) st.own st.sat
 obtain⟨_,hl⟩:=st.own.1.1
 exact⟨_,_,run_endRound none hl,i,S,rfl,hi,st.ext.step h1 (fun c hc=>st.own.1.2 c hc),h2,h3⟩
theorem A8{l:Nat}{Oi:ι→List OE}{dat:ι→σ}{jc:Nat→Code}{s2:σ}(q:Nat)(hq:jc q= .ret)(i:ι)(hi:dat i=s2)(hO:O=Oi i):AT E (roundPost E.P l (QI E l rec Oi dat jc (some q,s2))) .ret (sS l rec .busy none::O) G:=fun a w S st=>by
 subst hO
 obtain⟨h1,h2,h3⟩:=Ax (st' := .done) (pd' :=some .ret) st.own st.sat
 obtain⟨_,hl⟩:=st.own.1.1
 exact⟨_,_,run_endRound (some .ret) hl,i,S,rfl,hi,st.ext.step h1 (fun c hc=>st.own.1.2 c hc),h2,by rw [E9,hq];exact h3⟩
theorem Gm{it:Mo α X}(Oi:ι→List OE)(dat:ι→σ)(jc:Nat→Code){f:α→σ→Option (Option Nat×σ)}{R:(Option Nat×σ)×X}{g:Operand}{ps:List Nat}{assign body:Code}(hr:E.r=none)(hg:aZ E.N G g (tV v))(i0:ι)(hO:O=GY E.P args it Ob v fp::Oi i0)(hit:it (Option Nat×σ) (y8 f) (none,dat i0)=some R)(hps: ∀x,ps.length=(args x).length)(hpn:(ps.all fun d=>Nat.blt d E.N.n)=true)(hbody: ∀(i:ι) (x:α) (r:Option Nat×σ),f x (dat i)=some r→ ∀(l:Nat) (rec:Loop) (w1:World) (S1:SH) (B1:Nat→Prop),
   CG ⟨E.P,⟨E.N.n,[]⟩,B1,w1,S1,some l⟩ (Sp ⟨E.P,⟨E.N.n,[]⟩,B1,w1,S1,some l⟩ l body (QI ⟨E.P,⟨E.N.n,[]⟩,B1,w1,S1,some l⟩ l rec Oi dat jc r)) assign (sS l rec .ready none::Oi i) (FE ps (args x) G))(k: ∀i' j,dat i' =R.1.2→ ∀b,(R.1.1=none→AT ⟨E.P,⟨E.N.n,xI b::E.N.ds⟩,E.B,E.w0,E.S0,E.r⟩ Q .normal (CP b::(Ob R.2 j++Oi i')) G)∧
   (∀q,R.1.1=some q→CG ⟨E.P,⟨E.N.n,xI b::E.N.ds⟩,E.B,E.w0,E.S0,E.r⟩ Q (jc q) (CP b::(Ob R.2 j++Oi i')) G)):CG E Q (.rangeFunc g ps.toArray assign body) O G:=fun a w S st=>by
 subst hO
 refine wpIn_rangeFunc fun fn _=>?_
 have hr0:(fw E.r).round=none:=hr
 have hfw:fw E.r=fw none:=by rw [hr]
 rw [hr0]
 obtain⟨rec,hrec⟩: ∃rec:Loop,rec={state:= .ready,pending:=none,fn,tmps:=a.tmps,params:=ps.toArray,assign,body,defers:=w.heap.size}:=⟨_,rfl⟩
 obtain⟨x1,x2,x3⟩:=f9 (w:=w) (.deferred (some [])) st.sat
 obtain⟨y1,y2,y3⟩:=f9 (w:=w.alloc (.deferred (some []))) (.loop rec) x2
 obtain⟨W1,hW1⟩: ∃W1,(w.alloc (.deferred (some []))).alloc (.loop rec)=W1:=⟨_,rfl⟩
 rw [hW1]at y1 y2
 have hsz:(w.alloc (.deferred (some []))).heap.size=w.heap.size+1:=by simp
 rw [hsz]at y3
 have hext:gW qq w S W1 S:=x1.trans y1
 have hL1:W1.heap[w.heap.size+1]? =some (.loop rec):=by
  rw [←hW1];have:=World.alloc_heap_new (w.alloc (.deferred (some []))) (.loop rec);rwa [hsz]at this
 have hK1:W1.heap[w.heap.size]? =some (.deferred (some [])):=by
  rw [y1.heap w.heap.size (by omega) (fun h=>h)];exact World.alloc_heap_new w _
 have hW1s:W1.heap.size=w.heap.size+2:=by rw [←hW1];simp
 have hg' :a.eval g=v:=hg S a st.facts
 obtain⟨hit1,hap,hoi⟩:=st.own
 obtain⟨⟨hfp,gf,cap,hv,hcal,hcall⟩,hbase⟩:=hit1
 have hbl:=st.base_le
 have hoi1:du E.base E.B W1 S (Oi i0):=hoi.ext0 hext
 have hlt: ∀f∈Oi i0,∀k,f.fp k→k<w.heap.size:=fun f hf k hk=>f.here (du.mem hoi f hf).1 k hk
 refine⟨w.heap.size+1,[xI w.heap.size],W1,{target:= .fn (.func gf) cap,args:= #[.func (.yield (w.heap.size+1)) #[] #[]]},W1,gf,
  #[.func (.yield (w.heap.size+1)) #[] #[]]++cap,W1,?_,?_,fun _ _=>trivial,?_,fun h=>(by cases h),?_⟩
 ·rw [←hW1,hrec];exact run_enterLoop_outer _ _ _ _ _
 ·simp only [resolve,hg',hv]
  simp [go_sem]
 ·simp [invoke,go_sem,gL hcal]
 rw [hfw]
 refine lj.2 ?_
 have hyld:Vk E.P args (y8 f) (fun s e=> ∃i,dat i=s.2∧e=qY S (sS (w.heap.size+1) rec (SC s.1) (s.1.map jc)::Oi i)) (.func (.yield (w.heap.size+1)) #[] #[]):=by
  refine⟨_,rfl,?_⟩
  rintro x ⟨j0,s⟩ r hy e ⟨i,hi,rfl⟩ w2 S2 vs hs2 ⟨hle,hown⟩ hvs
  cases j0 with
  |some q=>unfold y8 at hy;cases hy
  |none=>
  have hi' :dat i=s:=hi
  subst hi'
  obtain⟨r2,hs2',rfl⟩: ∃r2,f x (dat i)=some r2∧r=(r2.1.isNone,r2):=by
   unfold y8 at hy
   cases hf:f x (dat i)with
   |none=>simp only [hf]at hy;cases hy
   |some s2=>simp only [hf]at hy;exact⟨s2,rfl,by simpa using hy.symm⟩
  have hl2:=hown.1.1.2
  have hvl:=hvs.length
  have hyr:=run_yield (P:=E.P) (args:=vs.toArray) hl2 (by rw [hrec];simp [hps x,hvl])
  refine⟨_,_,_,_,hyr,roundIn_of_wpIn trivial ?_⟩
  have hown' :du 0 qq w2 S2 (sS (w.heap.size+1) rec .ready none::Oi i):=hown
  have:=hbody i x r2 hs2' (w.heap.size+1) rec w2 S2 (fun k=> ∃f∈sS (w.heap.size+1) rec .ready none::Oi i,f.fp k)
   {tmps:=(ps.zip vs).foldl (fun t (p:Nat×Value)=>t.setIfInBounds p.1 p.2) a.tmps,defers:=[]} w2 S2
   ⟨gF _ _ _,hs2,lG hown' fun f hf k hk=> .inr ⟨f,hf,hk⟩,zL ps (args x) vs ⟨a.tmps,[]⟩ G (hps x) hvs hpn ⟨st.facts.size,rfl,fun j t h=>t.mono hle (st.facts.at_ j t h)⟩⟩
  rw [hrec]
  rw [hrec]at this
  rw [wO]
  refine wpIn_mono this ?_
  intro e a3 w3 hp
  cases e with
  |normal=>
   obtain⟨w4,hb4,hp4⟩:=hp
   refine⟨w4,hb4,wpIn_mono hp4 ?_⟩
   have hR: ∀en w',QI ⟨E.P,⟨E.N.n,[]⟩,fun k=> ∃f∈sS (w.heap.size+1) rec .ready none::Oi i,f.fp k,w2,S2,some (w.heap.size+1)⟩ (w.heap.size+1) rec Oi dat jc r2 en w' →
     ∃e' S',en= .returned (.bool r2.1.isNone)∧(∃i',dat i' =r2.2∧e' =qY S (sS (w.heap.size+1) rec (SC r2.1) (r2.1.map jc)::Oi i'))∧gW (qY S (sS (w.heap.size+1) rec .ready none::Oi i)).fp w2 S2 w' S' ∧jU w' S' ∧e'.p w' S' ∧ ∀k,e'.fp k→(qY S (sS (w.heap.size+1) rec .ready none::Oi i)).fp k∨w2.heap.size≤k:=by
    rintro en w' ⟨i',S',h1,h2,h3,h4,h5⟩
    exact⟨_,S',h1,⟨i',h2,rfl⟩,h3,h4,⟨SH.le_trans hle h3.keep,h5.weak⟩,fun k ⟨f,hf,hk⟩=>((du.mem h5 f hf).2 k hk).symm⟩
   rw [hrec]at hR
   intro e5 a5 w5 hp5
   cases e5<;>simp only [roundPost]at hp5 ⊢
   case normal=>obtain⟨v5,w6,h1,h2⟩:=hp5;exact⟨v5,w6,h1,hR _ _ h2⟩
   case ret=>obtain⟨v5,w6,h1,h2⟩:=hp5;exact⟨v5,w6,h1,hR _ _ h2⟩
   case exit=>obtain⟨v5,w6,h1,h2⟩:=hp5;exact⟨v5,w6,h1,hR _ _ h2⟩
   case goto=>obtain⟨v5,w6,h1,h2⟩:=hp5;exact⟨v5,w6,h1,hR _ _ h2⟩
  |_=>exact hp
 have hrecE:W1.heap[w.heap.size+1]? =some (.loop {rec with state:= .ready,pending:=none}):=by rw [hL1,hrec]
 have he0:(qY S (sS (w.heap.size+1) rec .ready none::Oi i0)).p W1 S:=⟨SH.le_refl _,⟨⟨y3,hrecE⟩,fun _ _=> .inl (iP _)⟩,fun f hf k hk hfk=>by have:=hlt f hf k hfk;have hk' :k=w.heap.size+1:=hk;omega,hoi1.weak⟩
 have hap0: ∀k,(qY S (sS (w.heap.size+1) rec .ready none::Oi i0)).fp k→ ¬fp k:=by
  rintro k ⟨f,hf,hk⟩ hfk
  rcases jl.1 hf with rfl|hf
  ·have:=hfp k hfk;have hk' :k=w.heap.size+1:=hk;omega
  ·exact hap f hf k hfk hk
 refine(hcall qq W1 S hext (fun _ _ h=>h) y2 _ (y8 f) (none,dat i0) R hit _ _ hyld _ ⟨i0,rfl,rfl⟩ he0 hap0).mono ?_
 rintro en w2 ⟨e',S2,j,⟨vr,rfl⟩,⟨i',hi',rfl⟩,hx2,hs2,⟨hle2,hown2⟩,hob,hnew,hapo⟩
 have hl2:=hown2.1.1.2
 have hnb: ∀k,(CP w.heap.size).fp k→ ¬((qY S (sS (w.heap.size+1) rec .ready none::Oi i0)).fp k∨fp k):=by
  rintro k hk h
  have hk' :k=w.heap.size:=hk
  subst hk'
  rcases h with⟨f,hf,hfk⟩|h
  ·rcases jl.1 hf with rfl|hf
   ·have hk' :w.heap.size=w.heap.size+1:=hfk;omega
   ·have:=hlt f hf _ hfk;omega
  ·have:=hfp _ h;omega
 have hBin: ∀k,((qY S (sS (w.heap.size+1) rec .ready none::Oi i0)).fp k∨fp k)→E.w0.heap.size≤k∨E.B k:=by
  rintro k (⟨f,hf,hk⟩|h)
  ·rcases jl.1 hf with rfl|hf
   ·left;have hk' :k=w.heap.size+1:=hk;have:E.w0.heap.size≤w.heap.size:=hbl;omega
   ·exact(du.mem hoi f hf).2 k hk
  ·exact hbase k h
 have hBn: ∀k,((qY S (sS (w.heap.size+1) rec (SC R.1.1) (R.1.1.map jc)::Oi i')).fp k∨zI (Ob R.2 j) k)→E.base≤k∨E.B k:=fun k hk=>(hnew k hk).elim (hBin k) (fun h=> .inl (by have h1:E.base≤w.heap.size:=hbl;have h2:W1.heap.size≤k:=h;omega))
 have hb2:du E.base E.B w2 S2 (sS (w.heap.size+1) rec (SC R.1.1) (R.1.1.map jc)::(Ob R.2 j++Oi i')):=by
  obtain⟨q1,q2,q3⟩:=hown2
  refine du.cons ⟨q1.1,fun k hk=>hBn k (.inl ⟨_,iA ..,hk⟩)⟩ (fun f hf=>?_) (du.join (lG hob fun f hf k hk=>hBn k (.inr ⟨f,hf,hk⟩)) (lG q3 fun f hf k hk=>hBn k (.inl ⟨f,pS _ hf,hk⟩)) fun e he f hf k hek hfk=>hapo k ⟨f,pS _ hf,hfk⟩ ⟨e,he,hek⟩)
  rcases wT.1 hf with hf|hf
  ·exact fun k hk hfk=>hapo k ⟨_,iA ..,hk⟩ ⟨f,hf,hfk⟩
  ·exact q2 f hf
 have hend:SC R.1.1≠ .busy:=by unfold SC;split<;>simp
 obtain⟨z1,z2,z3⟩:=Ax (st' := .exhausted) (pd' :=R.1.1.map jc) hb2 hs2
 have hdf:(CP w.heap.size).p W1 S:=⟨x3,hK1⟩
 have Vr:(CP w.heap.size).p w2 S2:=(CP w.heap.size).kept hdf hx2 hnb
 have hd3:=(CP w.heap.size).kept Vr z1 (fun k hk hkl=>by have h1:k=w.heap.size:=hk;have h2:k=w.heap.size+1:=hkl;omega)
 have stE:St ⟨E.P,⟨E.N.n,xI w.heap.size::E.N.ds⟩,E.B,E.w0,E.S0,E.r⟩ (CP w.heap.size::(Ob R.2 j++Oi i')) G {a with defers:=[xI w.heap.size]++a.defers} (w2.putObj (w.heap.size+1) (.loop {rec with state:= .exhausted,pending:=R.1.1.map jc})) S2:=by
  refine⟨((st.ext.step0 hext).step hx2 hBin).step z1 (fun c hc=>z3.1.2 c hc),z2,?_,?_⟩
  ·refine du.cons ⟨hd3,fun k hk=> .inl (by have h1:k=w.heap.size:=hk;rw [h1];exact hbl)⟩ (fun f hf k hk hfk=>?_) z3.2.2
   have h1:k=w.heap.size:=hk
   have h2:((qY S (sS (w.heap.size+1) rec (SC R.1.1) (R.1.1.map jc)::Oi i')).fp k∨zI (Ob R.2 j) k):=by
    rcases wT.1 hf with hf|hf
    ·exact .inr ⟨f,hf,hfk⟩
    ·exact .inl ⟨f,pS _ hf,hfk⟩
   rcases hnew k h2 with h|h
   ·exact hnb k hk h
   ·omega
  ·refine⟨st.facts.size,?_,fun j t hj=>t.mono (SH.le_trans (SH.le_refl S) hle2) (st.facts.at_ j t hj)⟩
   show xI w.heap.size::a.defers=_
   rw [st.facts.defers]
 obtain⟨k1,k2⟩:=k i' j hi' w.heap.size
 refine⟨_,_,run_endLoop hl2 hend,?_⟩
 cases hR1:R.1.1 with
 |none=>
  rw [hR1]at stE
  exact k1 hR1 _ _ S2 stE
 |some q=>
  rw [hR1]at stE
  have:=k2 q hR1 _ _ S2 stE
  show(jc q).wpIn (fw none) 0 E.P Q _ _
  have hE:fw (⟨E.P,⟨E.N.n,xI w.heap.size::E.N.ds⟩,E.B,E.w0,E.S0,E.r⟩:En).r=fw none:=hfw
  rw [hE]at this
  exact this
end

def Km(l:List (Option Nat×Nat)):OI:={h:=fun n=>l.getD n (none,0)}
def eX(P:Program){A X ρ:Type}(args:A→List Ty)(Ob:X→OI→List OE)(res:ρ→Ty)(f:X→A→Option (ρ×X)):Ty where
 p:=fun S v=> ∀x y R,f x y=some R→ ∃fid fst cap,v= .func (.func fid) fst cap∧av P fid=true∧ ∀i w S' vs,SH.le S S' →jU w S' →wZ S' (args y) vs→du 0 qq w S' (Ob x i)→
  Calls P fid (fst++vs.toArray++cap) w fun en w' => ∃j v S'',en= .returned v∧(res R.1).p S'' v∧gW (zI (Ob x i)) w S' w' S'' ∧jU w' S'' ∧du 0 qq w' S'' (Ob R.2 j)∧ ∀k,zI (Ob R.2 j) k→zI (Ob x i) k∨w.heap.size≤k
 mono:=fun h k x y R hf=>by
  obtain⟨fid,fst,cap,e,hc,hs⟩:=k x y R hf
  exact⟨fid,fst,cap,e,hc,fun i w S' vs hle=>hs i w S' vs (SH.le_trans h hle)⟩
variable{A ρ:Type}{res:ρ→Ty}
theorem Fn{args:A→List Ty}:(eX P args Ob res (fun _ _=>none)).p S v:=fun _ _ _ h=>by cases h
section
section
variable{ty:TypeId}
theorem kE{args:A→List Ty}{f:X→A→Option (ρ×X)}{fid:FuncId}{p:Operand}(hc:av E.P fid=true)(hp:aZ E.N G p (tV (aM b 0)))(hs: ∀x y R,f x y=some R→ ∀i,d2 E.P fid (tV (aM b 0)::args y) (Ob x i) (fun _:OI=>res R.1) (fun j=>Ob R.2 j)):
  cH E O G ⟨dst,.makeFunc (.func fid) #[p] #[],ty,pos,after,g⟩ (eX E.P args Ob res f):= .of_pure fun a w S _ _ hf=>by
 have h1:a.eval p=aM b 0:=hp S a hf
 refine⟨.func (.func fid) #[aM b 0] #[],by simp [execOp,Instr.makeFunc,h1],fun x y R hR=>⟨fid,#[aM b 0],#[],rfl,hc,fun i w' S' vs _ hsat hv ho=>?_⟩⟩
 have:=hs x y R hR i w' S' (aM b 0::vs) hsat ⟨rfl,hv⟩ ho
 rw [show(#[aM b 0]++vs.toArray++ #[]:Array Value)=(aM b 0::vs).toArray from by simp]
 exact this
end
theorem AR{args:A→List Ty}{f:X→A→Option (ρ×X)}{x:X}{y:A}{R:ρ×X}{i:OI}{ty:TypeId}{fo:Operand}{xs:List Operand}(Or:List OE)(hO:O=Ob x i++Or)(hf:aZ E.N G fo (eX E.P args Ob res f))(hR:f x y=some R)(hx:jE E.N G xs (args y))(hpost: ∀j,Ob R.2 j++Or=post j):
  EffOK E O G ⟨some d,.call ⟨.value fo,xs.toArray,ats⟩,ty,pos,after,g⟩ post (fun _=>res R.1):=fun a w S hsat ho hF hb=>by
 subst hO
 obtain rfl:(fun j=>Ob R.2 j++Or)=post:=funext hpost
 obtain⟨fid,fst,cap,e,hc,hs⟩:=hf S a hF x y R hR
 have hr:(execOp a.eval ⟨some d,.call ⟨.value fo,xs.toArray,ats⟩,ty,pos,after,g⟩).run E.P w= .ok (.enter fid (fst++(xs.map a.eval).toArray++cap)) w:=by
  simp [execOp,resolve,e,Deferred.ofValue,invoke,gL hc]
 refine⟨fun c h=>(by cases h),?_⟩
 rw [hr]
 exact(hs i w S _ (SH.le_refl _) hsat (hx.tys hF) (nV ho).1.weak).mono fun en w' ⟨j,v,S',he,hv,h1,h2,h3,h4⟩=>⟨_,he,v,S',j,rfl,h1.more fun b ⟨f,hf,hb⟩=>⟨f,Dk _ hf,hb⟩,h2,du.turn ho hb h1 h3 h4,hv⟩
theorem m7{t:Ty}{Ob:OI→List OE}{i:OI}(h:d2 P f ts O1 (fun _:OI=>t) (fun _=>Ob i)):d2 P f ts O1 (fun _:OI=>t) Ob:=fun w S vs hs hv ho=>
 (h w S vs hs hv ho).mono fun _ _ ⟨_,v,S',h1,h2,h3,h4,h5,h6⟩=>⟨i,v,S',h1,h2,h3,h4,h5,h6⟩
section
variable{t:ι→Ty}{O2:ι→List OE}
theorem ln{rvs:List ResultVar}(hr:fn.results=rvs.toArray)(h1:Nat.beq rvs.length 1=false)(h:NM P ⟨N,[]⟩ G rvs ts)(i:ι)(hO:O=O2 i)(ht:t i=tT ts):
  AT ⟨P,⟨N,[]⟩,zI O1,w0,S0,none⟩ (bodyPost P fn (PK ⟨P,⟨N,[]⟩,zI O1,w0,S0,none⟩ O1 t O2)) .ret O G:=fun a w S st=>by
 obtain⟨vs,k1,k2,k3⟩:=h.run st.sat st.facts
 have hne: ¬vs.length=1:=by rw [k3];intro e;rw [e]at h1;cases h1
 refine⟨st.facts.defers,.tuple vs.toArray,?_,Hp st rfl i hO (by rw [ht];exact⟨vs,rfl,k2⟩)⟩
 have e1:(fn.results.mapM (zz a.tmps)).run P w= .ok vs.toArray w:=by
  rw [hr,List.mapM_toArray,Sem.run_map,k1]
  rfl
 have e3:results fn a.tmps=((fn.results.mapM (zz a.tmps))>>=fun vs=>pure (if h:vs.size=1 then vs[0]else .tuple vs)):=rfl
 rw [e3,qV,e1]
 simp [Result.andThen,hne]
theorem js{x:α}(hr:fn.results= #[.cell k T])(ti:TI P T sz bytes agg z)(hsz:r.sz=sz)(hag:r.agg=agg)(hk:look G k=some (bt r x))(i:ι)(hO:O=O2 i)(ht:t i=tD r x):
  AT ⟨P,⟨N,[]⟩,zI O1,w0,S0,none⟩ (bodyPost P fn (PK ⟨P,⟨N,[]⟩,zI O1,w0,S0,none⟩ O1 t O2)) .ret O G:=fun a w S st=>by
 obtain⟨b,off,c,U,fr,h1,h2,h3⟩:=st.facts.at_ k _ hk
 obtain⟨c',h4,h5⟩:=st.sat.part h2 (r.len h3)
 rw [←h5]at h3
 refine⟨st.facts.defers,r.val ((c'.toList.drop off).take r.sz),?_,Hp st rfl i hO (by rw [ht];exact⟨_,rfl,h3⟩)⟩
 have hl:=la ti h4 hsz hag h3
 have h1' :a.tmps[k]?.getD undef=Value.pointer (some ⟨b,off,none⟩):=by simpa [Gv] using h1
 simp [results,hr,h1',asAddr,hl]
end
def X5(u:Value)(t:Ty):Ty where
 p:=fun S v=>v=u∧t.p S u
 mono:=fun h ⟨e,k⟩=>⟨e,t.mono h k⟩
theorem St.settleP{x:α}(h:St E (bx r T b x::O) G a w S)(hk:look G k=some (tV (aM b 0))): ∃S',St E O ((k,X5 (aM b 0) (bt r x))::G) a w S' :=by
 obtain⟨S',h1⟩:=h.settleB hk
 have hv:a.tmps.getD k undef=aM b 0:=h.facts.at_ k _ hk
 refine⟨S',⟨h1.ext,h1.sat,h1.own,⟨h1.facts.size,h1.facts.defers,fun j t hj=>?_⟩⟩⟩
 have hp:(bt r x).p S' (a.tmps.getD k undef):=h1.facts.at_ k _ (by simp [look])
 by_cases hb:Nat.beq k j=true
 ·have e:=pj hb
  subst e
  simp only [look,Nat.beq_refl,cond_true,HH]at hj
  subst hj
  exact⟨hv,by rw [←hv];exact hp⟩
 ·rw [zW]at hb
  have:look ((k,bt r x)::G) j=some t:=by
   simp only [look,hb,cond_false]at hj ⊢;exact hj
  exact h1.facts.at_ j t this
theorem zT{x:α}(k:Nat)(hk:look G k=some (tV (aM b 0)))(h:AT E Q e O ((k,X5 (aM b 0) (bt r x))::G)):AT E Q e (bx r T b x::O) G:=
 fun a w _ st=>let⟨S',st'⟩:=st.settleP hk;h a w S' st'
theorem So{hs:HL}{x:α}(h:du base B w S (bx (rH r hs) T b x::O)):du base B w S (bx r T b x::O):=by
 obtain⟨⟨⟨h1,c,h2,h3⟩,h4⟩,h5,h6⟩:=h
 exact⟨⟨⟨h1,c,h2,h3.1⟩,h4⟩,h5,h6⟩
theorem BW{hs:HL}{x:α}(h:AT E Q e (bx r T b x::O) G):AT E Q e (bx (rH r hs) T b x::O) G:=fun a w S st=>h a w S (st.own_map So)
theorem Bu{N:Fr}{G:mz}{j:Nat}{t:Ty}(ti:TI P T 1 bytes false z)(hk:look G k=some (bt rV u))(hj:look G j=some (X5 u t)):Mc P N G (.cell k T) t:=fun a w S hs hf=>by
 obtain⟨v,h1,h2⟩:=fh (r:=rV) ti rfl rfl hk a w S hs hf
 have h3:=(vY.1 h2).1
 subst h3
 obtain⟨_,h4⟩:=hf.at_ j _ hj
 exact⟨v,h1,h4⟩
end
section
variable [DecidableEq κ]{k:κ}{i v:Operand}{dst:Option Nat}{ty:TypeId}
theorem mG(hm:E.P.underlying t=some (.map kt et))(hk:Jw E.P kt kv)(hx:aZ E.N G x (tV (uz b)))(hi:Mm E.N G i (kv k))(hv:aZ E.N G v (γ y))(h: ∀os',RG E ops Q rest (rn (CM γ) kv b none os' (fQ m k y)::O) G):
  RG E ops Q (⟨none,.insert t x i v,ty,pos,after,none⟩::rest) (rn (CM γ) kv b none os m::O) G:= .of rfl fun a w S st=>by
 have h1:a.eval x=uz b:=hx S a st.facts
 have h2:a.eval i=kv k:=hi S a st.facts
 have h3:(γ y).p S (a.eval v):=hv S a st.facts
 obtain⟨⟨hp,hfp⟩,hap,hO⟩:=st.own
 obtain⟨hno,hnb,es,clock,e3,e4,hst⟩:=hp
 obtain⟨q,hq,hdk,hinj⟩:=hk
 obtain⟨os1,p1,p2,_⟩:=wB hdk hinj (k:=k) 0 e4
 have hnb1: ∀o∈os1,o.1≠some b:=fun o ho=>by
  rcases p1 o ho with h|h
  ·exact hnb o h
  ·rw [h];exact fun e=>by cases e
 obtain⟨w',os',r,x1,x2,x3,x4⟩:=Nh (V:=CM γ) (E:=E) (y:=y) (o:=(none,0)) (val:=a.eval v) st.sat hm ⟨q,hq,hdk,hinj⟩ ⟨hno,hnb1,es,clock,e3,p2,hst⟩ ⟨rfl,h3⟩ (fun e=>by cases e) (fun _ _ _ e=>by cases e)
 have hrun:(execOp a.eval ⟨none,.insert t x i v,ty,pos,after,none⟩).run E.P w= .ok .skip w' :=by simp [execOp,h1,h2,r]
 refine⟨fun c h=>(by cases h),?_⟩
 rw [hrun]
 have hfp' : ∀j,(rn (CM γ) kv b none os' (fQ m k y)).fp j→(rn (CM γ) kv b none os m).fp j:=fun j hj=>by
  rcases x4 j hj with(h|⟨o,ho,e⟩)|e
  ·exact .inl h
  ·rcases p1 o ho with h|h
   ·exact .inr ⟨o,h,e⟩
   ·rw [h]at e;cases e
  ·cases e
 exact h os' _ _ S ⟨st.ext.step x1 (fun c hc=>hfp c (.inl hc)),x2,⟨⟨x3,fun j hj=>hfp j (hfp' j hj)⟩,fun f hf j hj=>hap f hf j (hfp' j hj),hO.ext x1 fun f hf j hj hjb=>hap f hf j (.inl hjb) hj⟩,st.facts⟩
end
def Yb(b:Bool):Option Unit:=if b then some ()else none
theorem O7{b:Bool}{u:Unit}(h:Yb b=some u):b=true:=by
 unfold Yb at h
 split at h
 ·assumption
 ·cases h

section
variable [DecidableEq κ]{k:κ}{i:Operand}{dst:Option Nat}{ty:TypeId}
end

def GS:Nat:=1000000
def X6{α:Type}(r:Rp α)(x:α)(g:Nat):Ty where
 p:=fun S _=>(bt r x).p S (aM g 0)
 mono:=fun h k=>(bt r x).mono h k
theorem T6{x:α}{g:Nat}{vs:List Value}(hs:jU w S)(hg:(g,vs)∈glob)(hr: ∀S,r.rc S vs x):(bt r x).p S (aM g 0):=by
 obtain⟨c,T,fr,h1,h2⟩:=hs.gl _ hg
 refine⟨g,0,c,T,fr,rfl,h1,?_⟩
 rw [sM,←r.len (hr S)]
 have h3:c.toList.take vs.length=vs:=h2
 rw [h3]
 exact hr S
section
variable{ty:TypeId}
theorem Pm{N:Fr}{t:Ty}(hf:dr N S a G)(h: ∀v,t.p S v):dr N S a ((GS,t)::G):=⟨hf.size,hf.defers,fun j u hj=>by
 unfold look at hj
 cases hb:Nat.beq GS j with
 |true=>
  rw [hb]at hj
  simp only [cond_true,HH]at hj
  rw [←hj];exact h _
 |false=>
  rw [hb]at hj
  simp only [cond_false]at hj
  exact hf.at_ j u hj⟩
theorem Gj{x:α}{v:Nat}{vs:List Value}{t:Ty}(hg:(v,vs)∈glob)(hr: ∀S,r.rc S vs x)(h:cH E O ((GS,X6 r x v)::G) o t):cH E O G o t:=fun a w S hs ho hf=>
 h a w S hs ho (Pm hf fun _=>T6 hs hg hr)
theorem SM{N:Fr}{x:α}{v:Nat}:aZ N ((GS,X6 r x v)::G) (.global v) (bt r x):=fun S a hf=>hf.at_ GS (X6 r x v) (by simp [look])
def AH(s:jb)(i:Int):Option Int:=(dw s i).map fun b=>(b.toNat:Int)
theorem tL{ix:Operand}{k:IntKind}{i y:Int}(ht:E.P.underlying t=some .string)(hx:aZ E.N G x (tD rS s))(hi:aZ E.N G ix (tD (rI k) i))(hy:AH s i=some y):
  cH E O G ⟨dst,.index t x ix,ty,pos,after,g⟩ (tD (rI .u8) y):= .of_pure fun a w S _ _ hf=>by
 have h1:a.eval x= .string ⟨s.toArray⟩:=vX.1 (hx S a hf)
 have h2:a.eval ix= .int k i:=fe.1 (hi S a hf)
 unfold AH at hy
 cases hb:dw s i with
 |none=>rw [hb]at hy;cases hy
 |some b=>
  rw [hb]at hy
  obtain⟨g1,g2⟩:=lW hb
  have hlt:i.toNat<s.length:=(qW.1 g2).1
  have e:y=(b.toNat:Int):=by simpa using hy.symm
  have hsz:(ByteArray.mk s.toArray).size=s.length:=by simp [ByteArray.size]
  refine⟨.int .u8 y,?_,fe.2 rfl⟩
  have h3:=run_index_string (P:=E.P) w t ⟨s.toArray⟩ k i ht
  rw [dif_pos (by rw [hsz];omega)]at h3
  have h4:(ByteArray.mk s.toArray)[i.toNat]'(by rw [hsz];exact hlt)=b:=by
   have:=(qW.1 g2).2
   show s.toArray[i.toNat]=b
   simpa using this
  simp only [execOp,h1,h2,qV,h3,rY,BY]
  rw [h4,e]
end
open Go.MapKept (Stamped)
section
variable [DecidableEq κ]
def tNx(b:Bool):Ty where
 p:=fun _ v=> ∃vs:List Value,v= .tuple (.mk (.bool b::vs))
 mono:=fun _ h=>h
end
section
variable [DecidableEq κ]{r:Nat}{left:List κ}{cur:Option κ}{k:κ}{i v:Operand}{dst:Option Nat}{ty:TypeId}
theorem GV{f:Bool}(hx:aZ E.N G x (tNx f)):cH E O G ⟨dst,.extract x 0,ty,pos,after,g⟩ (tD rB f):=
 .of_pure fun a w S _ _ hf=>by
  obtain⟨vs,h1⟩:=hx S a hf
  exact⟨.bool f,by simp [execOp,h1,Instr.extract],ju.2 rfl⟩
end
open Go.RowKit

theorem Ns(hs:jU w S)(h:Below w.heap.size w w')(hd:w.drawn≤w'.drawn):gW qq w S w' S∧jU w' S:=
 ⟨⟨h.os,h.tape,h.output,hd,h.size,fun k hk _=>h.block k hk,SH.le_refl _,fun _ _ _=>rfl⟩,hs.same fun b o hb=>h.block b (hs.lt hb)⟩
theorem Jk{t:jb}(h: ∀w:World,MD w→Calls P f #[.string ⟨s.toArray⟩] w fun e w' =>e= .returned (.string ⟨t.toArray⟩)∧Below w.heap.size w w'):bo P f [tD rS s] (tD rS t):=fun w S vs hs hv=>by
 match vs,hv with
 |[v],⟨h1,_⟩=>
  obtain rfl:=vX.1 h1
  refine(Jg (h w hs.tab) (fun w' hr=>by cases hr.1)).mono fun e w' ⟨⟨he,hb⟩,hd⟩=>?_
  obtain⟨k1,k2⟩:=Ns hs hb hd
  exact⟨_,S,he,k1,k2,vX.2 rfl⟩

def s5(xs:List Int):jb:=xs.map fun n=>UInt8.ofNat n.toNat
theorem Eb: ∀(xs:List Int) (r:ByteArray),xs.foldl (fun r n=>r.push (UInt8.ofNat n.toNat)) r=⟨r.data++(s5 xs).toArray⟩
 |[],r=>by simp [s5]
 |x::xs,r=>by
  rw [List.foldl_cons,Eb xs]
  simp [s5,ByteArray.push]
theorem Im{k:IntKind}{S:SH}: ∀{xs:List Int} {cs:List Value},vt (rI k) S cs xs→cs=xs.map (Value.int k)
 |[],cs,h=>by rw [show cs=[]from h];rfl
 |x::xs,cs,⟨a,b,e,h1,h2⟩=>by
  rw [e,show a=[.int k x]from h1,Im h2]
  rfl
section
variable{ty:TypeId}
theorem M0{xs:List Int}{st dt e:TypeId}(hs:E.P.underlying st=some (.slice e))(he:E.P.underlying e=some (.int .u8))(hd:E.P.underlying dt=some .string)(ti:TI E.P e sz bytes agg z)(hsz:Nat.beq sz 1=true)(hx:aZ E.N G x (tD (fH (rI .u8)) xs)):cH E O G ⟨dst,.convert st dt x,ty,pos,after,g⟩ (tD rS (s5 xs)):= .of_pure fun a w S hsat _ hf=>by
 obtain⟨ad,cap,hv,hle,hmax,hsl⟩:=n6.1 (hx S a hf)
 refine⟨.string ⟨(s5 xs).toArray⟩,?_,vX.2 rfl⟩
 have key: ∀(ad:Option Addr),Fq (rI .u8) S ad xs→(ad=none→xs=[])→(Conv.bytesToString (.slice ad xs.length cap)).run E.P w= .ok (.string ⟨(s5 xs).toArray⟩) w:=fun ad h h0=>by
  cases ad with
  |none=>rw [h0 rfl];rfl
  |some p=>
   have hl:(loadCells p xs.length).run E.P w= .ok (xs.map (Value.int .u8)).toArray w:=by
    rcases h with h|⟨b,off,cc,T,fr,h1,h2,h3⟩
    ·rw [h];rfl
    ·cases h1
     obtain⟨c',h4,h5⟩:=hsat.part h2 (n8 h3)
     have h6:xs.length*(rI .u8).sz=xs.length:=by show xs.length*1=_;omega
     rw [h6]at h3 h5
     have h7:=Im h3
     exact vA h4 (h5.trans h7) (by simp)
   rw [run_bytesToString w p xs.length cap xs hl,Eb]
   simp [ByteArray.empty,ByteArray.emptyWithCapacity]
   rfl
 simp [execOp,hv,run_convert_bytes_string w st dt e _ _ _ hs he hd,key ad hsl (fun h=>by
  rcases hsl with h1|⟨b,off,cc,T,fr,h1,_⟩
  ·exact h1
  ·rw [h]at h1;cases h1)]
theorem MX{e:TypeId}(ha:E.P.underlying t=some (.array n e))(ti:TI E.P e sz bytes agg z)(hn:Nat.ble n maxLen=true)(hx:aZ E.N G x (bt (vh r n) xs)):cH E O G ⟨dst,.slice t x none none none,ty,pos,after,g⟩ (tD (fH r) xs):= .of_pure fun a w S _ _ hf=>by
 obtain⟨b,off,c,T,fr,h1,h2,h3,h4⟩:=hx S a hf
 have hz:(⟨b,off,none⟩:Addr).add 0=⟨b,off,none⟩:=by rw [jS,yD]
 refine⟨.slice (some ⟨b,off,none⟩) n n,?_,n6.2 ⟨_,_,by rw [h3],by omega,pT hn,.inr ⟨b,off,c,T,fr,rfl,h2,by rw [h3];exact h4⟩⟩⟩
 by_cases h0:n=0
 ·subst h0
  simp [execOp,h1,Instr.sliceAt,kH ha,ti.sizeOf,Instr.sliceBounds,Instr.sureAddr]
 ·simp [execOp,h1,Instr.sliceAt,kH ha,ti.sizeOf,Instr.sliceBounds,Instr.sureAddr,h0,hz]
theorem FN{y:α}{ix:Operand}{e:TypeId}{k:IntKind}{i:Int}(ht:E.P.underlying t=some (.array n e))(ti:TI E.P e sz bytes agg z)(hsz:r.sz=sz)(hag:r.agg=agg)(hx:aZ E.N G x (tD (vh r n) xs))(hi:aZ E.N G ix (tD (rI k) i))(hy:dw xs i=some y):cH E O G ⟨dst,.index t x ix,ty,pos,after,g⟩ (tD r y):= .of_pure fun a w S _ _ hf=>by
 obtain⟨cs,h1,h2,h3⟩:=hx S a hf
 have h1' :a.eval x= .agg cs.toArray:=h1
 have h4:a.eval ix= .int k i:=fe.1 (hi S a hf)
 obtain⟨g1,g2⟩:=lW hy
 have hlt:i.toNat<xs.length:=(qW.1 g2).1
 have hg:=C0 h3 g2
 have hin:0≤i∧i<(n:Int):=⟨g1,by omega⟩
 refine⟨r.val ((cs.drop (i.toNat*r.sz)).take r.sz),?_,_,rfl,hg⟩
 have hp:(part e cs.toArray (i.toNat*sz)).run E.P w= .ok (r.val ((cs.drop (i.toNat*r.sz)).take r.sz)) w:=by
  subst hsz
  subst hag
  have hl:=r.len hg
  unfold part
  simp only [qV,ti.isAgg,rY]
  cases hA:r.agg with
  |true=>
   simp [ti.sizeOf,Rp.val,hA]
  |false=>
   have h1:=r.sc hA
   rw [h1,Nat.mul_one]at hl ⊢
   cases hd:cs.drop i.toNat with
   |nil=>rw [hd]at hl;simp at hl
   |cons v l=>
    have hv:cs[i.toNat]? =some v:=by
     have:=xb (xs:=cs) (i:=i.toNat) (j:=0)
     rw [hd]at this
     simpa using this.symm
    simp [Rp.val,hA,hv]
 simp [execOp,h1',h4,Instr.index,asIntOf,kH ht,hin,ti.sizeOf,hp]

def tA(s:jb)(i:Nat):Nat×Nat:=Utf8.decode ⟨s.toArray⟩ i
def tX(s:jb):Nat→Nat→List (Int×Int)
 |0,_=>[]
 |f+1,i=>if i<s.length then((i:Int),((tA s i).1:Int))::tX s f (i+(tA s i).2)else []
def Ic(s:jb):List (Int×Int):=tX s (s.length+1) 0
theorem Sm(s:jb)(i:Nat):1≤(tA s i).2:=by
 unfold tA Utf8.decode
 simp only []
 repeat' split
 all_goals simp
def EL(r:Nat)(s:jb)(left:List (Int×Int)):OE where
 fp:=fun j=>j=r
 p:=fun w S=>S r=none∧ ∃pos f,w.heap[r]? =some (.stringIter ⟨s.toArray⟩ pos)∧left=tX s f pos∧s.length<pos+f
 here:=by
  rintro w S ⟨_,pos,f,h,_⟩ j rfl
  exact(vd.1 h).1
 kept:=by
  rintro C w w' S S' ⟨h0,pos,f,h,h2⟩ k hC
  have hlt:=(vd.1 h).1
  exact⟨by rw [k.old r hlt (hC r rfl)];exact h0,pos,f,by rw [k.heap r hlt (hC r rfl)];exact h,h2⟩
theorem Jo(ht:E.P.underlying t=some .string)(hx:aZ E.N G x (tD rS s))(hd:Nat.blt d E.N.n=true)(k: ∀r,RG E ops Q rest (EL r s (Ic s)::O) ((d,tV (aM r 0))::G)):RG E ops Q (⟨some d,.range t x,ty,pos,after,none⟩::rest) O G:= .of rfl fun a w S st=>by
 have hv:a.eval x= .string ⟨s.toArray⟩:=vX.1 (hx S a st.facts)
 have hrun:(execOp a.eval ⟨some d,.range t x,ty,pos,after,none⟩).run E.P w= .ok (.value (aM w.heap.size 0)) (w.alloc (.stringIter ⟨s.toArray⟩ 0)):=by
  simp [execOp,hv,Instr.range,kH ht,aM]
 refine⟨fun c h=>(by cases h),?_⟩
 rw [hrun]
 obtain⟨he,hs',hno⟩:=f9 (w:=w) (.stringIter ⟨s.toArray⟩ 0) st.sat
 exact k w.heap.size _ _ S ⟨st.ext.step0 he,hs',pO st.own he ⟨hno,0,s.length+1,Cx w _,rfl,by omega⟩ (fun b hb=>by rw [show b=_ from hb];exact eW _) st.base_le,st.facts.put hd rfl⟩
theorem KN{r:Nat}{left:List (Int×Int)}(hx:aZ E.N G x (tV (aM r 0)))(hd:Nat.blt d E.N.n=true)(h0:left=[]→RG E ops Q rest (EL r s []::O) ((d,tNx false)::G))(h1: ∀e l,left=e::l→RG E ops Q rest (EL r s l::O) ((d,tT [tD rB true,tD (rI .i64) e.1,tD (rI .i32) e.2])::G)):
  RG E ops Q (⟨some d,.next x true,ty,pos,after,none⟩::rest) (EL r s left::O) G:= .of rfl fun a w S st=>by
 obtain⟨⟨⟨hno,ps,f,hb,hl,hf⟩,hfp⟩,hap,hO⟩:=st.own
 have hv:a.eval x=aM r 0:=hx S a st.facts
 have hsz:(ByteArray.mk s.toArray).size=s.length:=by simp [ByteArray.size]
 have hg:(getObj r).run E.P w= .ok (.stringIter ⟨s.toArray⟩ ps) w:=by
  simp [getObj,Sem.run,hb]
 by_cases hp:ps<s.length
 ·obtain⟨f,rfl⟩: ∃f',f=f' +1:=⟨f-1,by omega⟩
  have hl2:left=((ps:Int),((tA s ps).1:Int))::tX s f (ps+(tA s ps).2):=by rw [hl,tX,bS hp]
  have hset:(setObj r (.stringIter ⟨s.toArray⟩ (ps+(tA s ps).2))).run E.P w= .ok () {w with heap:=w.heap.setIfInBounds r (.stringIter ⟨s.toArray⟩ (ps+(tA s ps).2))}:=by
   simp [setObj,Sem.run,hb]
  have hrun:(execOp a.eval ⟨some d,.next x true,ty,pos,after,none⟩).run E.P w= .ok (.value (.tuple #[.bool true,.int .i64 ps,.int .i32 (tA s ps).1])) {w with heap:=w.heap.setIfInBounds r (.stringIter ⟨s.toArray⟩ (ps+(tA s ps).2))}:=by
   have h3:(Instr.next (aM r 0) true ty).run E.P w= .ok (.tuple #[.bool true,.int .i64 ps,.int .i32 (tA s ps).1]) {w with heap:=w.heap.setIfInBounds r (.stringIter ⟨s.toArray⟩ (ps+(tA s ps).2))}:=by
    unfold Instr.next aM
    simp only [qV,hg,rY,hsz,hp,jW]
    rw [show Utf8.decode ⟨s.toArray⟩ ps=tA s ps from rfl]
    simp only [qV,hset,rY]
    rfl
   simp [execOp,hv,h3]
  refine⟨fun c h=>(by cases h),?_⟩
  rw [hrun]
  have hblt:=(vd.1 hb).1
  have hx' :gW (fun k=> ∃f∈[EL r s left],f.fp k) w S {w with heap:=w.heap.setIfInBounds r (.stringIter ⟨s.toArray⟩ (ps+(tA s ps).2))} S:=
   ⟨rfl,rfl,rfl,eW _,by simp,fun k _ hk=>by
    have:r≠k:=fun e=>hk ⟨_,List.mem_singleton_self _,e.symm⟩
    simp [this],SH.le_refl _,fun _ _ _=>rfl⟩
  have hs' :jU {w with heap:=w.heap.setIfInBounds r (.stringIter ⟨s.toArray⟩ (ps+(tA s ps).2))} S:=st.sat.same fun k o hk=>by
   have:r≠k:=fun e=>by subst e;rw [hno]at hk;cases hk
   simp [this]
  have hnew:(EL r s (tX s f (ps+(tA s ps).2))).p {w with heap:=w.heap.setIfInBounds r (.stringIter ⟨s.toArray⟩ (ps+(tA s ps).2))} S:=
   ⟨hno,_,f,by simp [hblt],rfl,by have:=Sm s ps;omega⟩
  refine h1 _ _ hl2 _ _ S ((st.turn (O1:=[EL r s left]) (O2:=[EL r s (tX s f (ps+(tA s ps).2))]) hx' hs' ⟨⟨hnew,fun k hk=> .inl (iP _)⟩,fun _ h=>(by cases h),trivial⟩ (fun k ⟨g,hg,hk⟩=>?_)).put hd ?_)
  ·have:g=EL r s (tX s f (ps+(tA s ps).2)):=by simpa using hg
   subst this
   exact .inl ⟨_,List.mem_singleton_self _,hk⟩
  ·exact⟨[.bool true,.int .i64 ps,.int .i32 (tA s ps).1],rfl,ju.2 rfl,fe.2 rfl,fe.2 rfl,trivial⟩
 ·have hl2:left=[]:=by
   rw [hl]
   cases f with
   |zero=>rfl
   |succ f=>rw [tX,bM hp]
  have hrun:(execOp a.eval ⟨some d,.next x true,ty,pos,after,none⟩).run E.P w= .ok (.value (.tuple #[.bool false])) w:=by
   have h3:(Instr.next (aM r 0) true ty).run E.P w= .ok (.tuple #[.bool false]) w:=by
    unfold Instr.next aM
    simp only [qV,hg,rY,hsz,hp,ji]
    rfl
   simp [execOp,hv,h3]
  refine⟨fun c h=>(by cases h),?_⟩
  rw [hrun]
  subst hl2
  exact h0 rfl _ _ S (st.put hd ⟨[],rfl⟩)
theorem y4{t:Ty}{u:List Ty}{i:Nat}(hu:u[i]? =some t)(hx:aZ E.N G x (tT u)):cH E O G ⟨dst,.extract x i,ty,pos,after,g⟩ t:=D4 hu hx
theorem Vl{Z:List β→Prop}{Of:List β→List OE}{Gf:mz}(h: ∀l,Z l→(∀l2,l2.length<l.length→Z l2→LG E Q c (Of l2) Gf)→LG E Q c (Of l) Gf)(l:List β)(hz:Z l):LG E Q c (Of l) Gf:=by
 have key: ∀(n:Nat) (l:List β),l.length≤n→Z l→LG E Q c (Of l) Gf:=by
  intro n
  induction n with
  |zero=>intro l hn hz;exact h l hz fun l2 h2 _=>absurd h2 (by omega)
  |succ n ih=>intro l hn hz;exact h l hz fun l2 h2 hz2=>ih l2 (by omega) hz2
 exact key l.length l (eW _) hz
end

abbrev NG:=Nat→(Option Nat×Nat)×(Nat→Option Nat×Nat)
inductive NPl where
 |o
 |i (k:Nat)
 |l (k j:Nat)
section
def Vr(q:Nat→Option Nat×Nat)(zs:List (List α)):List Value:=zs.mapIdx fun j z=>aV (q j).1 (q j).2 z.length
def hd1(prj:β→List (List α))(g:NG)(x:List β):List Value:=x.mapIdx fun k y=>aV (g k).1.1 (g k).1.2 (prj y).length
def nsB(prj:β→List (List α))(l:Option Nat)(g:NG)(x:List β)(h:Option (Nat×Nat)):NPl→Option Nat
 | .o=>l
 | .i k=>(x[k]?).bind fun _=>(g k).1.1
 | .l k j=>if h=some (k,j)then none else((x[k]?).bind fun y=>(prj y)[j]?).bind fun _=>((g k).2 j).1
structure nstP(prj:β→List (List α))(r:Rp α)(T1 T2 T3:TypeId)(l:Option Nat)(cap n:Nat)(g:NG)(x:List β)(h:Option (Nat×Nat))(w:World)(S:SH):Prop where
 len:x.length=n
 out:BN false rV T1 l cap (hd1 prj g x) w S
 inn: ∀k y,x[k]? =some y→BN false rV T2 (g k).1.1 (g k).1.2 (Vr (g k).2 (prj y)) w S
 lvs: ∀k y j z,x[k]? =some y→(prj y)[j]? =some z→h≠some (k,j)→BN true r T3 ((g k).2 j).1 ((g k).2 j).2 z w S
 inj: ∀s t b,nsB prj l g x h s=some b→nsB prj l g x h t=some b→s=t
variable{prj:β→List (List α)}{T1 T2 T3:TypeId}{l:Option Nat}{g:NG}{x:List β}{h:Option (Nat×Nat)}
end
section
variable{prj:β→List (List α)}{T1 T2 T3:TypeId}{l:Option Nat}{g:NG}{x:List β}{h:Option (Nat×Nat)}
variable{ty:TypeId}{gd:Option (Nat×Bool)}
open Classical in
noncomputable def XX(w:World)(S:SH)(P:Nat→Prop):SH:=fun b=>if P b then w.heap[b]? else S b
def g0(hs:List (Option Nat×Nat)):NG:=fun k=>(hs.getD k (none,0),fun _=>(none,0))
def tsB(l:Option Nat)(q:Nat→Option Nat×Nat)(zs:List (List α))(h:Option Nat):Option Nat→Option Nat
 |none=>l
 |some j=>if h=some j then none else(zs[j]?).bind fun _=>(q j).1
structure rowP(r:Rp α)(T2 T3:TypeId)(l:Option Nat)(cap n:Nat)(q:Nat→Option Nat×Nat)(zs:List (List α))(h:Option Nat)(w:World)(S:SH):Prop where
 len:zs.length=n
 inn:BN false rV T2 l cap (Vr q zs) w S
 lvs: ∀j z,zs[j]? =some z→h≠some j→BN true r T3 (q j).1 (q j).2 z w S
 inj: ∀s t b,tsB l q zs h s=some b→tsB l q zs h t=some b→s=t
variable{q:Nat→Option Nat×Nat}{zs:List (List α)}{k:Option Nat}
end
end Go.Proofs.YtnmjbolollcokaaGreatDoor

