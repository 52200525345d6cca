/- cX of this claim: W28, W30, W31, W32, W33, W34, W35, W36, W37, W38, W39, W40, W48, W50, W51. -/
import Derived.Test.YtfhhakidodmdfaaGreatDoorJhV2
import Derived.MapKept
import Derived.Scope
import Derived.ChangeKeysEq
import Derived.Lib.Bytealg
import Derived.Maps.Range
import Derived.Laws.IdiomRangeMap
import Derived.Test.YtfhhakidodmdfaaGreatDoorJhV1
import Derived.Laws.BytesString
import Derived.Below
set_option linter.all false
namespace Go.Proofs.YtfhhakidodmdfaaGreatDoor
open Go

variable{β α:Type}{b:Nat}{c:Code}{d:Nat}{e:Exit}{k:Nat}{r:Rp α}{x:Operand}{y:β}
theorem PU [Inhabited α]{c b:Bool}{x:Option α}{k:α→Option β}{d:Option β}{r:β}(h:c=true→(if b=true then x.bind k else d)=some r): ∃y,((c&&b)=true→x=some y∧k y=some r)∧(c=true→b=false→d=some r):=by
 cases c with
 |false=>exact⟨default,fun e=>(by cases e),fun e=>(by cases e)⟩
 |true=>
  obtain⟨y,h1,h2⟩:=og (h rfl)
  exact⟨y,fun e=>h1 e,fun _ e=>h2 e⟩
def pi{κ β:Type} [DecidableEq κ]:List (κ×β)→κ→Option β
 |[],_=>none
 |p::m,k=>if p.1=k then some p.2 else pi m k
def ee{κ β:Type} [DecidableEq κ]:List (κ×β)→κ→β→List (κ×β)
 |[],k,v=>[(k,v)]
 |p::m,k,v=>if p.1=k then(k,v)::m else p::ee m k v
def zW{κ:Type}(P:Program)(kt:TypeId)(kv:κ→Value):Prop:= ∃d,P.underlying kt=some d∧(∀a,MapKept.IsKey d (kv a))∧ ∀a b,kv a=kv b→a=b
def Qd(k:IntKind)(n:Int):Value:= .int k n
variable{P:Program}{a:Act}{kt:TypeId}
theorem de{k:IntKind}(h:P.underlying kt=some (.int k)):zW P kt (Qd k):=⟨_,h,fun _=>rfl,fun a b e=>by injection e⟩
structure MV(β:Type) where
 p:World→SH→β→Option Nat×Nat→Value→Prop
 here: ∀{w S y o v},p w S y o v→ ∀j,o.1=some j→j<w.heap.size
 kept: ∀{C w w' S S' y o v},p w S y o v→d6 C w S w' S' →(∀j,o.1=some j→ ¬C j)→p w' S' y o v
def q0{β:Type}(ty:β→Ty):MV β where
 p:=fun _ S y o v=>o.1=none∧(ty y).p S v
 here:=fun h j hj=>by rw [h.1]at hj;cases hj
 kept:=fun h k _=>⟨h.1,(ty _).mono k.keep h.2⟩
variable{S S' :SH}{V:MV β}{f:FuncId}{κ:Type}{kv:κ→Value}{m:List (κ×β)}{o:Oper}{os:List (Option Nat×Nat)}{q:Rp β}{v:Value}{w w' :World}{xs:List α}
section
variable [DecidableEq κ]{d:TypeDesc}{k:κ}
def q4(V:MV β)(kv:κ→Value)(w:World)(S:SH)(h:Option κ):List MapEntry→List (Option Nat×Nat)→List (κ×β)→Prop
 |[],[],[]=>True
 |e::es,o::os,q::m=>e.key=kv q.1∧(if h=some q.1 then o.1=none else V.p w S q.2 o e.val)∧(∀o' ∈os,∀j,o.1=some j→o'.1≠some j)∧(∀p∈m,p.1≠q.1)∧q4 V kv w S h es os m
 |_,_,_=>False
theorem zD{h:Option κ}: ∀{es:List MapEntry} {os:List (Option Nat×Nat)} {m:List (κ×β)},q4 V kv w S h es os m→ ∀o∈os,∀j,o.1=some j→j<w.heap.size
 |[],[],[],_,o,ho,_,_=>by cases ho
 |e::es,o::os,q::m,⟨_,h2,_,_,h5⟩,o',ho,j,hj=>by
  rcases gc.1 ho with rfl|ho
  ·split at h2
   ·rw [h2]at hj;cases hj
   ·exact V.here h2 j hj
  ·exact zD h5 o' ho j hj
theorem uM{C:Nat→Prop}(k:d6 C w S w' S'){h:Option κ}: ∀{es:List MapEntry} {os:List (Option Nat×Nat)} {m:List (κ×β)},q4 V kv w S h es os m→(∀o∈os,∀j,o.1=some j→ ¬C j)→q4 V kv w' S' h es os m
 |[],[],[],_,_=>trivial
 |e::es,o::os,q::m,⟨h1,h2,h3,h4,h5⟩,hC=>⟨h1,by
  split
  ·rename_i hh;rw [c9 hh]at h2;exact h2
  ·rename_i hh;rw [cZ hh]at h2;exact V.kept h2 k (hC o (gV ..)),h3,h4,uM k h5 fun o' ho=>hC o' (mS _ ho)⟩
theorem wi{h:Option κ}: ∀{es:List MapEntry} {os:List (Option Nat×Nat)} {m:List (κ×β)},q4 V kv w S h es os m→(∀p∈m,h≠some p.1)→q4 V kv w S none es os m
 |[],[],[],_,_=>trivial
 |e::es,o::os,q::m,⟨h1,h2,h3,h4,h5⟩,hk=>⟨h1,by
  rw [cZ (hk q (gV ..))]at h2
  rw [cZ (by simp)];exact h2,h3,h4,wi h5 fun p hp=>hk p (mS _ hp)⟩
theorem nf(hd: ∀a,MapKept.IsKey d (kv a))(hi: ∀a b,kv a=kv b→a=b)(a b:κ):Instr.sameNow d (kv a) (kv b)=some (decide (a=b)):=by
 obtain⟨r,h1,h2⟩:=MapKept.sameNow_of_keys (hd a) (hd b)
 rw [h1]
 by_cases h:a=b
 ·subst h;rw [h2.2 rfl];simp
 ·rw [lD h]
  cases r with
  |false=>rfl
  |true=>exact absurd (hi _ _ (h2.1 rfl)) h
theorem ol(hd: ∀a,MapKept.IsKey d (kv a))(hi: ∀a b,kv a=kv b→a=b): ∀{es:List MapEntry} {os:List (Option Nat×Nat)} {m:List (κ×β)} (i:Nat),q4 V kv w S none es os m→
  ∃os',(∀x∈os',x∈os∨x.1=none)∧q4 V kv w S (some k) es os' m∧
   ((pi m k=none∧Instr.findNow d (kv k) es i=some none)∨ ∃(y:β) (o:Option Nat×Nat) (e:MapEntry) (j:Nat),pi m k=some y∧o∈os∧V.p w S y o e.val∧Instr.findNow d (kv k) es i=some (some (j,e.val))∧ ∀x∈os',∀q,o.1=some q→x.1≠some q)
 |[],[],[],i,_=>⟨[],fun x hx=>(by cases hx),trivial,.inl ⟨rfl,rfl⟩⟩
 |e::es,o::os,q::m,i,⟨h1,h2,h3,h4,h5⟩=>by
  rw [cZ (by simp)]at h2
  by_cases hk:q.1=k
  ·refine⟨(none,0)::os,fun x hx=>?_,⟨h1,by rw [c9 (by rw [hk])],fun _ _ _ hj=>(by cases hj),h4,?_⟩,.inr ⟨q.2,o,e,i,by unfold pi;rw [c9 hk],gV ..,h2,?_,fun x hx j hj=>?_⟩⟩
   ·rcases gc.1 hx with rfl|hx
    ·exact .inr rfl
    ·exact .inl (mS _ hx)
   ·have: ∀{es:List MapEntry} {os:List (Option Nat×Nat)} {m:List (κ×β)},q4 V kv w S none es os m→(∀p∈m,p.1≠k)→q4 V kv w S (some k) es os m:=by
     intro es
     induction es with
     |nil=>intro os m h _;cases os<;>cases m<;>first|trivial|exact h.elim
     |cons e es ih=>
      intro os m h hm
      cases os with
      |nil=>cases m<;>exact h.elim
      |cons o os=>
       cases m with
       |nil=>exact h.elim
       |cons q m=>
        obtain⟨g1,g2,g3,g4,g5⟩:=h
        rw [cZ (by simp)]at g2
        exact⟨g1,by rw [cZ (fun e=>hm q (gV ..) (kX e).symm)];exact g2,g3,g4,ih g5 fun p hp=>hm p (mS _ hp)⟩
    exact this h5 (fun p hp=>by rw [←hk];exact h4 p hp)
   ·unfold Instr.findNow
    rw [h1,nf hd hi,hk,kG rfl]
   ·rcases gc.1 hx with rfl|hx
    ·exact fun e=>by cases e
    ·exact h3 x hx j hj
  ·obtain⟨os',g1,g2,g3⟩:=ol hd hi (i+1) h5
   refine⟨o::os',fun x hx=>?_,⟨h1,by rw [cZ (fun e=>hk (kX e).symm)];exact h2,fun o' ho' j hj=>?_,h4,g2⟩,?_⟩
   ·rcases gc.1 hx with rfl|hx
    ·exact .inl (gV ..)
    ·exact(g1 x hx).imp (mS _) id
   ·rcases g1 o' ho' with h|h
    ·exact h3 o' h j hj
    ·rw [h];exact fun e=>by cases e
   ·have hf:Instr.findNow d (kv k) (e::es) i=Instr.findNow d (kv k) es (i+1):=by
     conv=>lhs;unfold Instr.findNow
     rw [h1,nf hd hi,lD (fun e=>hk e.symm)]
    have hm:pi (q::m) k=pi m k:=by conv=>lhs;unfold pi;rw [cZ hk]
    rw [hf,hm]
    refine g3.imp id fun⟨y,o1,e1,j,f1,f2,f3,f4,f5⟩=>⟨y,o1,e1,j,f1,mS _ f2,f3,f4,fun x hx q hq=>?_⟩
    rcases gc.1 hx with rfl|hx
    ·exact fun e=>h3 o1 f2 q e hq
    ·exact f5 x hx q hq
theorem B5(x:α)(xs:List α)(j:Nat)(f:α→α):(x::xs).modify (j+1) f=x::xs.modify j f:=by simp [List.modify_succ_cons]
theorem zE(hd: ∀a,MapKept.IsKey d (kv a))(hi: ∀a b,kv a=kv b→a=b){y:β}{o:Option Nat×Nat}{v:Value}{born:Nat}(hv:V.p w S y o v): ∀{es:List MapEntry} {os:List (Option Nat×Nat)} {m:List (κ×β)} (i:Nat),q4 V kv w S (some k) es os m→(∀o' ∈os,∀j,o.1=some j→o'.1≠some j)→
    ∃os',(∀x∈os',x∈os∨x=o)∧
      ((∃(j:Nat) (e:MapEntry),Instr.findNow d (kv k) es i=some (some (i+j,e.val))∧es[j]? =some e∧e.key=kv k∧q4 V kv w S none (es.modify j fun e=>{e with key:=kv k,val:=v}) os' (ee m k y))∨
        (Instr.findNow d (kv k) es i=some none∧q4 V kv w S none (es++[⟨kv k,v,born⟩]) os' (ee m k y)))
  |[],[],[],i,_,_=>⟨[o],fun x hx=> .inr (List.mem_singleton.1 hx),.inr ⟨rfl,⟨rfl,by rw [cZ (by simp)];exact hv,fun _ h=>(by cases h),fun _ h=>(by cases h),trivial⟩⟩⟩
  |e::es,o1::os,q::m,i,⟨h1,h2,h3,h4,h5⟩,ha=>by
    by_cases hk:q.1=k
    · refine⟨o::os,fun x hx=>?_,.inl ⟨0,e,?_,rfl,by rw [h1,hk],?_⟩⟩
      · rcases gc.1 hx with rfl|hx
        · exact .inr rfl
        · exact .inl (mS _ hx)
      · unfold Instr.findNow
        rw [h1,nf hd hi,hk,kG rfl]
        rfl
      · unfold ee
        rw [c9 hk,List.modify_zero_cons]
        exact⟨rfl,by rw [cZ (by simp)];exact hv,fun o' ho' =>ha o' (mS _ ho'),fun p hp=>by rw [←hk];exact h4 p hp,
          wi h5 fun p hp e=>h4 p hp (by rw [hk];exact(kX e).symm)⟩
    · obtain⟨os',g1,g2⟩:=zE hd hi (born:=born) hv (i+1) h5 fun o' ho' =>ha o' (mS _ ho')
      rw [cZ (fun e=>hk (kX e).symm)]at h2
      have hf:Instr.findNow d (kv k) (e::es) i=Instr.findNow d (kv k) es (i+1):=by
        conv=>lhs;unfold Instr.findNow
        rw [h1,nf hd hi,lD (fun e=>hk e.symm)]
      have hm:ee (q::m) k y=q::ee m k y:=by conv=>lhs;unfold ee;rw [cZ hk]
      have hap: ∀o' ∈os',∀j,o1.1=some j→o'.1≠some j:=fun o' ho' j hj=>by
        rcases g1 o' ho' with h|rfl
        · exact h3 o' h j hj
        · exact fun e=>ha o1 (gV ..) j e hj
      have hne: ∀p∈ee m k y,p.1≠q.1:=by
        have: ∀m:List (κ×β),(∀p∈m,p.1≠q.1)→ ∀p∈ee m k y,p.1≠q.1:=by
          intro m
          induction m with
          |nil=>intro _ p hp;rw [List.mem_singleton.1 hp];exact fun e=>hk e.symm
          |cons p0 m ih=>
            intro hm p hp
            unfold ee at hp
            split at hp
            · rcases gc.1 hp with rfl|hp
              · exact fun e=>hk e.symm
              · exact hm p (mS _ hp)
            · rcases gc.1 hp with rfl|hp
              · exact hm _ (gV ..)
              · exact ih (fun p hp=>hm p (mS _ hp)) p hp
        exact this m h4
      rw [hf,hm]
      refine⟨o1::os',fun x hx=>?_,g2.imp (fun⟨j,e',f1,f2,f3,f4⟩=>⟨j+1,e',by rw [f1];congr 3;omega,by simpa using f2,f3,?_⟩) fun⟨f1,f2⟩=>⟨f1,?_⟩⟩
      · rcases gc.1 hx with rfl|hx
        · exact .inl (gV ..)
        · exact(g1 x hx).imp (mS _) id
      · rw [B5]
        exact⟨h1,by rw [cZ (by simp)];exact h2,hap,hne,f4⟩
      · exact⟨h1,by rw [cZ (by simp)];exact h2,hap,hne,f2⟩
theorem zC{h:Option κ}: ∀{es:List MapEntry} {os:List (Option Nat×Nat)} {m:List (κ×β)},q4 V kv w S h es os m→ ∀x∈es,∃q∈m,x.key=kv q.1
 |[],[],[],_,x,hx=>by cases hx
 |e::es,o::os,q::m,⟨h1,_,_,_,h5⟩,x,hx=>by
  rcases gc.1 hx with rfl|hx
  ·exact⟨q,gV ..,h1⟩
  ·obtain⟨q',g1,g2⟩:=zC h5 x hx
   exact⟨q',mS _ g1,g2⟩
theorem FE(hd: ∀a,MapKept.IsKey d (kv a)){h:Option κ}{es:List MapEntry}{i:Nat}(h4:q4 V kv w S h es os m)(g1:Instr.findNow d (kv k) es i=some none){x:MapEntry}(hx:x∈es):x.key≠kv k:=by
 rcases MapKept.findNow_spec (hd k) es i (fun y hy=>by obtain⟨q,_,e⟩:=zC h4 y hy;rw [e];exact hd _)with⟨_,h2⟩|⟨j,e,h2,_⟩
 ·exact h2 x hx
 ·rw [g1]at h2;cases h2
def jF(V:MV β)(kv:κ→Value)(b:Nat)(h:Option κ)(os:List (Option Nat×Nat))(m:List (κ×β)):OE where
 fp:=fun j=>j=b∨ ∃o∈os,o.1=some j
 p:=fun w S=>S b=none∧(∀o∈os,o.1≠some b)∧ ∃es clock,w.heap[b]? =some (.map es clock)∧q4 V kv w S h es.toList os m∧MapKept.Stamped es clock
 here:=by
  intro w S ⟨_,_,es,clock,h3,h4,_⟩ j hj
  rcases hj with rfl|⟨o,ho,hj⟩
  ·exact(oK.1 h3).1
  ·exact zD h4 o ho j hj
 kept:=by
  intro C w w' S S' ⟨h1,h2,es,clock,h3,h4,hst⟩ k hC
  have hlt:=(oK.1 h3).1
  exact⟨by rw [k.old b hlt (hC b (.inl rfl))];exact h1,h2,es,clock,by rw [k.heap b hlt (hC b (.inl rfl))];exact h3,uM k h4 (fun o ho j hj=>hC j (.inr ⟨o,ho,hj⟩)),hst⟩
def lS(b:Nat):Value:= .map (some b)
end
variable{E:En}{G:iO}{N:Fr}{O:List OE}{X:Type}{Q:Exit→Act→World→Prop}{T:TypeId}{after:Array Edge}{dst:Option Tmp}{et:TypeId}{fp:Nat→Prop}{g:Option (Nat×Bool)}{n:Nat}{ops:Array Oper}{pos:String}{rest:List Oper}{t:TypeId}{u:Value}{x1 x2 x3:OE}{z:List Value}{zv:Value}{γ:β→Ty}
section
variable [DecidableEq κ]{k:κ}{i v:Operand}{dst:Option Nat}{ty:TypeId}
def Cy(N:Fr)(G:iO)(x:Operand)(u:Value):Prop:= ∀S a,cX N S a G→a.eval x=u
theorem jP{q:IntKind}{n:Int}(h:aH N G x (tD (rI q) n)):Cy N G x (Qd q n):=fun S a hf=>cq.1 (h S a hf)
def ZV(P:Program)(T:TypeId)(z:Value):Prop:=(P.info? T).bind (·.zero)=some z
theorem ZV.run{z:Value}(h:ZV P T z)(w:World):(zeroValue T).run P w= .ok z w:=by
 unfold ZV at h
 cases hi:P.info? T with
 |none=>rw [hi]at h;cases h
 |some i=>
  rw [hi]at h
  have h' :i.zero=some z:=h
  simp [zeroValue,typeInfo,hi,h']
theorem tN(V:MV β)(kv:κ→Value)(hd:Nat.blt d E.N.n=true)(k: ∀b,RG E ops Q rest (jF V kv b none [] []::O) ((d,tV (lS b))::G)):
  RG E ops Q (⟨some d,.makeMap t none,ty,pos,after,none⟩::rest) O G:= .of rfl fun a w S st=>by
 obtain⟨he,hs',hno⟩:=dS (w:=w) (.map #[] 0) st.sat
 have hrun:(execOp a.eval ⟨some d,.makeMap t none,ty,pos,after,none⟩).run E.P w= .ok (.value (lS w.heap.size)) (w.alloc (.map #[] 0)):=by
  simp [execOp,Instr.makeMap,lS]
 refine⟨fun c h=>(by cases h),?_⟩
 rw [hrun]
 exact k w.heap.size _ _ S ⟨st.ext.step0 he,hs',kD st.own he ⟨hno,fun _ h=>(by cases h),#[],0,wv w _,trivial,MapKept.stamped_empty 0⟩ (fun b hb=>by
  rcases hb with rfl|⟨_,h,_⟩
  ·exact ia _
  ·cases h) st.base_le,st.facts.put hd rfl⟩
theorem jm{kk:Value}{es:Array MapEntry}{clock:Nat}{q:TypeDesc}{z:Value}{u:Option (Nat×Value)}(hm:P.underlying t=some (.map kt et))(hq:P.underlying kt=some q)(hk:MapKept.IsKey q kk)(hb:w.heap[b]? =some (.map es clock))(hz:ZV P et z)(hf:Instr.findNow q kk es.toList 0=some u)(c:Bool):(Instr.lookup t (lS b) kk c).run P w= .ok (if c then .tuple #[(u.map (·.2)).getD z,.bool u.isSome]else(u.map (·.2)).getD z) w:=by
 cases u with
 |none=>simp [Instr.lookup,lS,gO hm,D7 hb,D4 hq hk,MapKept.run_findKey hq hf,hz.run,Result.andThen]
 |some r=>simp [Instr.lookup,lS,gO hm,D7 hb,D4 hq hk,MapKept.run_findKey hq hf,Result.andThen]
theorem Dq{z:β}(hm:E.P.underlying t=some (.map kt et))(hk:zW E.P kt kv)(hz:ZV E.P et zv)(hzt: ∀S,(γ z).p S zv)(hmem:jF (q0 γ) kv b none os m∈O)(hx:aH E.N G x (tV (lS b)))(hi:Cy E.N G i (kv k)):
  bB E O G ⟨dst,.lookup t x i false,ty,pos,after,g⟩ (γ ((pi m k).getD z)):= .of_pure fun a w S hs ho hf=>by
 obtain⟨⟨_,_,es,clock,h3,h4,_⟩,_⟩:=cj.mem ho _ hmem
 obtain⟨q,hq,hd,hinj⟩:=hk
 have h1:a.eval x=lS b:=hx S a hf
 have h2:a.eval i=kv k:=hi S a hf
 obtain⟨_,_,_,h5⟩:=ol hd hinj (k:=k) 0 h4
 rcases h5 with⟨g1,g2⟩|⟨y,o,e,j,g1,g2,g3,g4,g5⟩
 ·refine⟨zv,by simp [execOp,h1,h2,jm hm hq (hd k) h3 hz g2],by rw [g1];exact hzt S⟩
 ·refine⟨e.val,by simp [execOp,h1,h2,jm hm hq (hd k) h3 hz g4],by rw [g1];exact g3.2⟩
theorem BY{z:β}(hm:E.P.underlying t=some (.map kt et))(hk:zW E.P kt kv)(hz:ZV E.P et zv)(hzt: ∀S,(γ z).p S zv)(hmem:jF (q0 γ) kv b none os m∈O)(hx:aH E.N G x (tV (lS b)))(hi:Cy E.N G i (kv k)):
  bB E O G ⟨dst,.lookup t x i true,ty,pos,after,g⟩ (tT [γ ((pi m k).getD z),tD rB (pi m k).isSome]):= .of_pure fun a w S hs ho hf=>by
 obtain⟨⟨_,_,es,clock,h3,h4,_⟩,_⟩:=cj.mem ho _ hmem
 obtain⟨q,hq,hd,hinj⟩:=hk
 have h1:a.eval x=lS b:=hx S a hf
 have h2:a.eval i=kv k:=hi S a hf
 obtain⟨_,_,_,h5⟩:=ol hd hinj (k:=k) 0 h4
 rcases h5 with⟨g1,g2⟩|⟨y,o,e,j,g1,g2,g3,g4,g5⟩
 ·refine⟨.tuple #[zv,.bool false],by simp [execOp,h1,h2,jm hm hq (hd k) h3 hz g2],[zv,.bool false],rfl,by rw [g1];exact hzt S,eQ.2 (by rw [g1];rfl),trivial⟩
 ·refine⟨.tuple #[e.val,.bool true],by simp [execOp,h1,h2,jm hm hq (hd k) h3 hz g4],[e.val,.bool true],rfl,by rw [g1];exact g3.2,eQ.2 (by rw [g1];rfl),trivial⟩
theorem vi{kk:Value}{es:Array MapEntry}{clock:Nat}{q:TypeDesc}{val:Value}(hm:P.underlying t=some (.map kt et))(hq:P.underlying kt=some q)(hk:MapKept.IsKey q kk)(hb:w.heap[b]? =some (.map es clock)):
  (Instr.findNow q kk es.toList 0=some none→(Instr.mapUpdate t (lS b) kk val).run P w= .ok () {w with heap:=w.heap.setIfInBounds b (.map (es.push ⟨kk,val,clock⟩) (clock+1))})∧
  (∀j e,Instr.findNow q kk es.toList 0=some (some (j,e))→(∀e',es.toList[j]? =some e' →e'.key=kk)→(∃e',es.toList[j]? =some e')→(Instr.mapUpdate t (lS b) kk val).run P w= .ok () {w with heap:=w.heap.setIfInBounds b (.map (es.modify j fun e=>{e with key:=kk,val:=val}) clock)}):=by
 refine⟨fun hf=>?_,fun j e hf hj he=>?_⟩
 ·simp [Instr.mapUpdate,lS,gO hm,D7 hb,D4 hq hk,MapKept.run_findKey hq hf,MapKept.run_setObj_map _ hb,Result.andThen]
 ·obtain⟨e',he'⟩:=he
  have h1:=hj e' he'
  have h2:es[j]? =some e' :=by simpa using he'
  simp [Instr.mapUpdate,lS,gO hm,D7 hb,D4 hq hk,MapKept.run_findKey hq hf,MapKept.run_setObj_map _ hb,Result.andThen,h2,h1,MapKept.run_keyThatStays hk]
theorem FA{o:Option Nat×Nat}{val:Value}(hs:ft w S)(hm:E.P.underlying t=some (.map kt et))(hk:zW E.P kt kv)(hp:(jF V kv b (some k) os m).p w S)(hv:V.p w S y o val)(hob:o.1≠some b)(hap: ∀o' ∈os,∀j,o.1=some j→o'.1≠some j):
  ∃w' os',(Instr.mapUpdate t (lS b) (kv k) val).run E.P w= .ok () w' ∧d6 (fun j=>j=b) w S w' S∧ft w' S∧(jF V kv b none os' (ee m k y)).p w' S∧(∀j,(jF V kv b none os' (ee m k y)).fp j→(jF V kv b (some k) os m).fp j∨o.1=some j):=by
 obtain⟨hno,hnb,es,clock,h3,h4,hst⟩:=hp
 obtain⟨q,hq,hdk,hinj⟩:=hk
 obtain⟨os',p1,p2⟩:=zE hdk hinj (born:=clock) hv 0 h4 hap
 have hnb' : ∀o' ∈os',o'.1≠some b:=fun o' ho' =>by
  rcases p1 o' ho' with h|rfl
  ·exact hnb o' h
  ·exact hob
 have hfp: ∀j,(j=b∨ ∃o∈os',o.1=some j)→(j=b∨ ∃o∈os,o.1=some j)∨o.1=some j:=fun j hj=>by
  rcases hj with h|⟨o',ho',e⟩
  ·exact .inl (.inl h)
  ·rcases p1 o' ho' with h|rfl
   ·exact .inl (.inr ⟨o',h,e⟩)
   ·exact .inr e
 have hw: ∀X:Obj,d6 (fun j=>j=b) w S {w with heap:=w.heap.setIfInBounds b X} S∧ft {w with heap:=w.heap.setIfInBounds b X} S∧({w with heap:=w.heap.setIfInBounds b X}:World).heap[b]? =some X:=fun X=>
  ⟨⟨rfl,rfl,rfl,ia _,by simp,fun j _ hj=>(MapKept.heap_set (o' :=X) h3).2 j hj,SH.le_refl _,fun _ _ _=>rfl⟩,hs.same fun j o hj=>(MapKept.heap_set (o' :=X) h3).2 j (fun e=>by subst e;rw [hno]at hj;cases hj),(MapKept.heap_set h3).1⟩
 obtain⟨r1,r2⟩:=vi (val:=val) hm hq (hdk k) h3
 rcases p2 with⟨j,e,g1,g2,g3,g4⟩|⟨g1,g2⟩
 ·rw [sH]at g1
  obtain⟨x1,x2,x3⟩:=hw (.map (es.modify j fun e=>{e with key:=kv k,val:=val}) clock)
  refine⟨_,os',r2 j _ g1 (fun e' he' =>by rw [g2]at he';cases he';exact g3) ⟨_,g2⟩,x1,x2,⟨hno,hnb',_,_,x3,?_,MapKept.stamped_modify hst j _ (fun _ _=>rfl) (fun e' _ he' =>by rw [←Array.getElem?_toList,g2]at he';cases he';exact g3.symm)⟩,hfp⟩;refine uM x1 (by rw [Array.toList_modify];exact g4) fun o' ho' j hj e=>?_
  subst e
  exact hnb' o' ho' hj
 ·obtain⟨x1,x2,x3⟩:=hw (.map (es.push ⟨kv k,val,clock⟩) (clock+1))
  refine⟨_,os',r1 g1,x1,x2,⟨hno,hnb',_,_,x3,?_,MapKept.stamped_push hst (fun x hx e=>?_)⟩,hfp⟩
  rotate_left
  ·exact FE hdk h4 g1 hx e
  refine uM x1 (by rw [Array.toList_push];exact g2) fun o' ho' j hj e=>?_
  subst e
  exact hnb' o' ho' hj
end

def tu(tmps:Array Value):ResultVar→Sem Value
 | .tmp t=>pure (tmps.getD t undef)
 | .cell a t=>do loadVar t (←asAddr (tmps.getD a undef))
def E0(P:Program)(N:Fr)(G:iO)(rv:ResultVar)(t:Ty):Prop:= ∀a w S,ft w S→cX N S a G→ ∃v,(tu a.tmps rv).run P w= .ok v w∧t.p S v
theorem aW{t:Ty}(hk:look G k=some t):E0 P N G (.tmp k) t:=fun a w S _ hf=>⟨_,rfl,hf.at_ k t hk⟩
variable{U:TypeId}{agg:Bool}{bytes off sz:Nat}
theorem bq{x:α}(ti:TI P T sz bytes agg z)(hsz:r.sz=sz)(hag:r.agg=agg)(hk:look G k=some (bv r x)):E0 P N G (.cell k T) (tD r x):=fun a w S hs hf=>by
 obtain⟨b,off,c,U,fr,h1,h2,h3⟩:=hf.at_ k _ hk
 obtain⟨c',h4,h5⟩:=hs.part h2 (r.len h3)
 rw [←h5]at h3
 have hl:=iF ti h4 hsz hag h3
 have h1' :a.tmps[k]?.getD undef=Value.pointer (some ⟨b,off,none⟩):=by simpa [Bo] using h1
 exact⟨_,by simp [tu,h1',asAddr,hl],_,rfl,h3⟩
def FU(P:Program)(N:Fr)(G:iO):List ResultVar→List Ty→Prop
 |[],[]=>True
 |rv::rvs,t::ts=>E0 P N G rv t∧FU P N G rvs ts
 |_,_=>False
variable{ts:List Ty}
theorem FU.run(hs:ft w S)(hf:cX N S a G): ∀{rvs:List ResultVar} {ts:List Ty},FU P N G rvs ts→ ∃vs,(rvs.mapM (tu a.tmps)).run P w= .ok vs w∧q6 S ts vs∧vs.length=rvs.length
 |[],[],_=>⟨[],rfl,trivial,rfl⟩
 |rv::rvs,t::ts,⟨h1,h2⟩=>by
  obtain⟨v,g1,g2⟩:=h1 a w S hs hf
  obtain⟨vs,k1,k2,k3⟩:=FU.run hs hf h2
  exact⟨v::vs,by simp [List.mapM_cons,g1,k1,Result.andThen],⟨g2,k2⟩,by simp [k3]⟩
variable{B:Nat→Prop}{S0:SH}{fn:Func}{w0:World}
theorem bF{N:Nat}{rvs:List ResultVar}(hr:fn.results=rvs.toArray)(h1:Nat.beq rvs.length 1=false)(h:FU P ⟨N,[]⟩ G rvs ts):
  AT ⟨P,⟨N,[]⟩,B,w0,S0,none⟩ (bodyPost P fn (DP ⟨P,⟨N,[]⟩,B,w0,S0,none⟩ (tT ts))) .ret O G:=fun a w S st=>by
 obtain⟨vs,k1,k2,k3⟩:=h.run st.sat st.facts
 have hne: ¬vs.length=1:=by rw [k3];intro e;rw [e]at h1;cases h1
 refine⟨st.facts.defers,.tuple vs.toArray,?_,_,S,rfl,st.ext,st.sat,vs,rfl,k2⟩
 have e1:(fn.results.mapM (tu a.tmps)).run P w= .ok vs.toArray w:=by
  rw [hr,List.mapM_toArray,Sem.run_map,k1]
  rfl
 have e3:results fn a.tmps=((fn.results.mapM (tu a.tmps))>>=fun vs=>pure (if h:vs.size=1 then vs[0]else .tuple vs)):=rfl
 rw [e3,nF,e1]
 simp [Result.andThen,hne]

variable{cap:Nat}{cs:List Value}
theorem Gq(h:(tD (ea r) xs).p S v):(ea r).rc S [v] xs:=by
 obtain⟨cs,e,h2⟩:=h
 obtain⟨a,cap,e2,h3⟩:=h2
 subst e2
 rw [e]
 exact⟨a,cap,rfl,h3⟩
variable{base:Nat}
section
variable{ty:TypeId}
theorem lP{r:Rp β}{get:β→Value}{x:β}{p:Operand}{l:Option Nat}(ti:TI E.P U 1 bytes false z)(hget:kl r off rV get)(hm:bx r T b x∈O)(hv:get x=aQ l cap n)(hp:aH E.N G p (tV (aO b off))):
  bB E O G ⟨dst,.load U p,ty,pos,after,g⟩ (tV (aQ l cap n)):=(bL (q:=rV) ti rfl rfl hget hm hp).imp fun _ _ h=>by rw [←hv];exact(p4.1 h).1
theorem Fv{q:Rp α}{r:Rp β}{get:β→Value}{x:β}{V:TypeId}{p:Operand}{l:Option Nat}(ti:TI E.P U 1 bytes false z)(hget:kl r off rV get)(hm:bx r T b x∈O)(hm2:db q V l cap xs∈O)(hv:get x=aQ l cap xs.length)(hp:aH E.N G p (tV (aO b off))):
  bB E O G ⟨dst,.load U p,ty,pos,after,g⟩ (tO q l cap xs):=fun a w S hs ho hf=>
 j5 (fun _ _ ⟨v,S',h1,h2,h3,h4⟩=>⟨v,S',h1,h2,h3,h4,by
  have h5:v=aQ l cap xs.length:=h4
  rw [h5]
  exact lc (((ho.ext0 h2).mem _ hm2).1)⟩) (lP (g:=g) (ty:=ty) (pos:=pos) (after:=after) (dst:=dst) ti hget hm hv hp a w S hs ho hf)
theorem kw{i o:Nat}{p:Operand}(hf:bR E.P T i=some (off,sz))(h0:Nat.beq sz 0=false)(hp:aH E.N G p (tV (aO b o)))(he:o+off=n):bB E O G ⟨dst,.fieldAddr T p i,ty,pos,after,g⟩ (tV (aO b n)):=by
 subst he
 exact yW hf h0 hp
theorem xQ{q:Rp α}{r:Rp β}{x:β}{y:α}{p:Operand}(ti:TI E.P U sz bytes agg z)(hsz:q.sz=sz)(hag:q.agg=agg)(hag2:r.agg=agg)(hsz2:r.sz=sz)(hm:bx r T b x∈O)(hc: ∀w S cs,cj E.base E.B w S O→r.rc S cs x→q.rc S cs y)(hp:aH E.N G p (tV (aO b 0))):
  bB E O G ⟨dst,.load U p,ty,pos,after,g⟩ (tD q y):= .of_pure fun a w S _ ho hf=>by
 have h1:a.eval p=aO b 0:=hp S a hf
 obtain⟨⟨_,cur,h5,h6⟩,_⟩:=ho.mem _ hm
 have h7:=hc w S _ ho h6
 have hl:=q.len h7
 have h8:q.rc S ((cur.toList.drop 0).take q.sz) y:=by rw [nG,yE (by omega)];exact h7
 exact⟨_,by simp [execOp,h1,aO,Instr.loadAt,Instr.sureAddr,iF ti h5 hsz hag h8],_,rfl,h8⟩
theorem Aw{q:Rp α}{V:TypeId}{l:Option Nat}(ho:cj base B w S O)(hm:db q V l cap xs∈O):(ea q).rc S [aQ l cap xs.length] xs:=Gq (lc (ho.mem _ hm).1)
end
def pP{α β γ:Type}(r:Rp α)(r' :Rp γ)(off:Nat)(q:Rp β)(x:α)(y:β)(x' :γ):Prop:= ∀S cs ds,r.rc S cs x→q.rc S ds y→r'.rc S (cs.take off++ds++cs.drop (off+q.sz)) x'
variable{set:α→β→α}
theorem te{x:α}(h:gp r off q set):pP r r off q x y (set x y):=fun S cs ds h1 h2=>h S cs x ds y h1 h2
theorem sb{γ:Type}{r' :Rp γ}{x:α}{y:γ}(hs:r.sz=r'.sz):pP r r' 0 r' x y y:=fun S cs ds h1 h2=>by
 have hl:=r.len h1
 rw [List.take_zero,ww,oI (by omega),List.append_nil]
 exact h2
theorem Ee{α' γ:Type}{p:Rp α}{p' :Rp α'}{x:α×β}{y:γ}{u:Rp γ}{x1:α'}(h:pP p p' 0 u x.1 y x1)(hu:Nat.ble u.sz p.sz=true):pP (cI p q) (cI p' q) 0 u x y (x1,x.2):=fun S cs ds ⟨a,b,e,h1,h2⟩ hd=>by
 have hl:=p.len h1
 have hu' :=ko hu
 have h3:=h S a ds h1 hd
 subst e
 rw [List.take_zero,ww,sH,List.drop_append_of_le_length (by omega),←vc]
 rw [List.take_zero,ww,sH]at h3
 exact⟨_,_,rfl,h3,h2⟩
theorem gZ{β' γ:Type}{p:Rp α}{q' :Rp β'}{x:α×β}{y:γ}{u:Rp γ}{off' :Nat}{x2:β'}(h:pP q q' off u x.2 y x2)(ho:off' =p.sz+off):pP (cI p q) (cI p q') off' u x y (x.1,x2):=fun S cs ds ⟨a,b,e,h1,h2⟩ hd=>by
 have hl:=p.len h1
 have h3:=h S b ds h2 hd
 subst e ho
 refine⟨a,_,?_,h1,h3⟩
 have e1:p.sz+off-a.length=off:=by omega
 have e2:p.sz+off+u.sz-a.length=off+u.sz:=by omega
 rw [List.take_append,List.drop_append,yE (by omega),oI (by omega),e1,e2]
 simp
theorem Ar{α' β' γ:Type}{p:Rp α}{p' :Rp α'}{f:β→α}{f' :β' →α'}{x:β}{x' :β'}{y:γ}{u:Rp γ}{z:α'}(h:pP p p' off u (f x) y z)(e:f' x' =z):pP (kZ p f) (kZ p' f') off u x y x' :=fun S cs ds h1 h2=>by
 show p'.rc S _ (f' x')
 rw [e]
 exact h S cs ds h1 h2
section
variable{ty:TypeId}
theorem tM{γ:Type}{r' :Rp γ}{x:α}{x' :γ}{p v:Operand}(ti:TI E.P U sz bytes agg z)(hsz:q.sz=sz)(hset:pP r r' off q x y x')(hoff:Nat.ble (off+q.sz) r.sz=true)(hp:aH E.N G p (tV (aO b off)))(hv:aH E.N G v (tD q y))(k:RG E ops Q rest (bx r' T b x' ::O) G):RG E ops Q (⟨none,.store U p v,ty,pos,after,none⟩::rest) (bx r T b x::O) G:= .of rfl fun a w S st=>by
 have h1:a.eval p=aO b off:=hp S a st.facts
 obtain⟨ds,h2,h3⟩:=hv S a st.facts
 obtain⟨⟨hno,cur,h5,h6⟩,_⟩:=st.own.1
 have hl:=r.len h6
 have hoff' :=ko hoff
 obtain⟨w',hr,e1,e2,e3,e4,e5,e6⟩:=gR ti hsz h3 h5 (off:=off) (by simp at hl;omega)
 have hrun:(execOp a.eval ⟨none,.store U p v,ty,pos,after,none⟩).run E.P w= .ok .skip w' :=by
  simp [execOp,h1,h2,Instr.storeAt,aO,Instr.sureAddr,hr]
 refine⟨fun c h=>(by cases h),?_⟩
 rw [hrun]
 obtain⟨g1,g2,g3⟩:=lO (O:=O) st.sat (bx r T b x) (bx r' T b x') st.own (fun _=>Iff.rfl) (fun _=>Iff.rfl) ⟨e1,e2,e3,e4.1,e4.2⟩ e6 ⟨hno,_,e5,by simpa using hset S _ _ h6 h3⟩ hno
 exact k _ _ S ⟨st.ext.step g1 (fun c hc=>st.own.1.2 c hc),g2,g3,st.facts⟩
end

section
variable{b:Frame}{k:List Item}{cs:List Frame}{F:Fence}
theorem kT:step P (lone (b.atR a (.code (.scope c)::k)) cs w)= .next (lone (b.atR a (.code c:: .inScope c::k)) cs w):=
 step_lone_go (by simp [stepG,stepG.exec,Frame.atR])
theorem yN:step P (lone (b.atR a (.inScope c::k)) cs w)= .next (lone (b.atR a k) cs w):=
 step_lone_go (by simp [stepG,stepG.exec,Frame.atR])
theorem CU(h:c.wpIn F n P (Exit.noGoto Q) a w):(Code.scope c).wpIn F n P Q a w:=by
 intro b k cs hro hb hr
 have h0:(lone (b.atR a (.code (.scope c)::k)) cs w).fenced P F:=fenced_calm hb hr rfl
 obtain⟨e,a₁,w₁,hq,harr⟩:=h b (.inScope c::k) cs hro hb hr
 cases e with
 |normal=>exact⟨.normal,a₁,w₁,hq,.head h0 kT (StepsIn.trans harr (.one (fenced_calm hb hr rfl) yN))⟩
 |exit id=>
  have hx:exitTo id (.inScope c::k)=exitTo id k:=by simp [exitTo]
  exact⟨.exit id,a₁,w₁,hq,fun k' hk=> .head h0 kT (harr.1 k' (by rw [hx];exact hk)),
   fun hr' hk=>let⟨k₁,h1,h2⟩:=harr.2 hr' (by rw [hx];exact hk);⟨k₁,h1,.head h0 kT h2⟩⟩
 |goto l=>exact hq.elim
 |ret=>exact⟨_,a₁,w₁,hq,.of_steps (.one h0 kT) harr⟩
 |panic ch=>exact⟨_,a₁,w₁,hq,.of_steps (.one h0 kT) harr⟩
 |outgrown=>exact⟨_,a₁,w₁,hq,.of_steps (.one h0 kT) harr⟩
end
section
theorem CC(h:CG E (Exit.noGoto Q) c O G):CG E Q (.scope c) O G:=fun a w S st=>CU (h a w S st)
theorem CD{l:Nat}(h:AT E Q .normal O G):CG E Q (.label l) O G:=fun a w S st=>wpIn_label (h a w S st)
theorem sG(h:AT E Q .ret O G):AT E (Exit.noGoto Q) .ret O G:=h
end

theorem AL [Inhabited α]{m i:Nat}(h:i<m):kl (lF r m) (i*r.sz) r (fun x=>(x[i]?).getD default):=fun S cs x ⟨h1,h2⟩=>by
 have hi:x[i]? =some ((x[i]?).getD default):=by rw [lK (by omega)];rfl
 exact ul h2 hi
theorem Kh [DecidableEq α] [Inhabited α]{m t e:Nat}(ht:P.underlying t=some (.array m e))(ti:TI P e sz bytes agg z)(hsz:r.sz=sz)(hag:r.agg=agg)(he:mP P e r n):mP P t (lF r m) (n+1):=fun S cs ds x y d w hx hy=>by
 obtain⟨i,zv,hi,hs,_⟩:=ti.get
 have hcell:P.cellsOf e=r.sz:=by unfold Program.cellsOf;rw [hi];simp [hs,hsz]
 have e1:(lF r m).val cs= .agg cs.toArray:=rfl
 have e2:(lF r m).val ds= .agg ds.toArray:=rfl
 rw [e1,e2,show d+(n+1)=(d+n)+1 from rfl,run_equalIn_array w (d+n) cs.toArray ds.toArray ht hi,List.range_eq_range',hcell]
 have key: ∀k j,j+k=m→(Op.eqItems (d+n) e r.sz cs.toArray ds.toArray (List.range' j k)).run P w= .ok (decide (x.drop j=y.drop j)) w:=by
  intro k
  induction k with
  |zero=>
   intro j hj
   rw [oI (by have:=hx.1;omega),oI (by have:=hy.1;omega)]
   rfl
  |succ k ih=>
   intro j hj
   have hjx:j<x.length:=by have:=hx.1;omega
   have hjy:j<y.length:=by have:=hy.1;omega
   have h1:=nh ti hsz hag (AL (r:=r) (m:=m) (i:=j) (by omega)) hx w
   have h2:=nh ti hsz hag (AL (r:=r) (m:=m) (i:=j) (by omega)) hy w
   have h3:=he S _ _ _ _ d w (AL (r:=r) (m:=m) (i:=j) (by omega) S cs x hx) (AL (r:=r) (m:=m) (i:=j) (by omega) S ds y hy)
   rw [List.range'_succ]
   unfold Op.eqItems
   simp only [nF,h1,h2,h3,pb]
   have ex:x.drop j=(x[j]?).getD default::x.drop (j+1):=by rw [lK hjx];exact oJ hjx
   have ey:y.drop j=(y[j]?).getD default::y.drop (j+1):=by rw [lK hjy];exact oJ hjy
   rw [ex,ey]
   by_cases hq:(x[j]?).getD default=(y[j]?).getD default
   ·simp only [hq,decide_true,va,Bl,s3]
    rw [ih (j+1) (by omega)]
    congr 1
    simp
   ·simp [hq]
 have:=key m 0 (by omega)
 simpa using this
variable{ys:List α}
section
variable{ty:TypeId}
theorem zp{xs:List Operand}{m sz' bytes' :Nat}{agg' :Bool}{z' :List Value}(ht:E.P.underlying t=some (.array m T))(ti:TI E.P T sz bytes agg z)(hsz:r.sz=sz)(tj:TI E.P t sz' bytes' agg' z')(hz:z'.length=m*r.sz)(hm:m=ys.length)(hx:fX E.N G xs (ys.map (tD r))):bB E O G ⟨dst,.build t (sZ 0 xs).toArray,ty,pos,after,g⟩ (tD (lF r m) ys):=
 .of_pure fun a w S _ _ hF=>by
  obtain⟨zv,hzr,hzc⟩:=tj.zero w
  obtain⟨cs,hc,hfill⟩:=yf ys (xs.map a.eval) 0 [] z' (hx.tys hF) (by simp) (by rw [hz,hm])
  subst hsz
  have hparts:((sZ 0 xs).toArray.map fun(i,x)=>(i,a.eval x)).toList=wh 0 (xs.map a.eval):=by simpa using vz a.eval 0 xs
  rw [ww,ww]at hfill
  refine⟨.agg cs.toArray,?_,cs,rfl,hm.symm,hc⟩
  simp only [execOp,Instr.build,nF,hzr,pb,gO ht,ti.sizeOf,hzc,hparts,hfill]
  simp
end

def rl(N:Nat):List Nat→List Oper→Bool
 |_,[]=>true
 |seen,o::rest=>match o.dst with
  |some d=>Nat.blt d N&& !(seen.any (Nat.beq d))&&rl N (d::seen) rest
  |none=>rl N seen rest
theorem vW{N:Nat}(l:List Oper): ∀(seen:List Nat),rl N seen l=true→
  (∀o:Oper,o∈l→ ∀d,o.dst=some d→d<N∧d∉seen)∧ ∀(i j:Nat) (o p:Oper) (d:Nat),l[i]? =some o→l[j]? =some p→o.dst=some d→p.dst=some d→i=j:=by
 induction l with
 |nil=>exact fun _ _=>⟨fun _ h=>(by cases h),fun _ _ _ _ _ h=>(by simp at h)⟩
 |cons o l ih=>
  intro seen h
  unfold rl at h
  cases hd:o.dst with
  |none=>
   rw [hd]at h
   obtain⟨h1,h2⟩:=ih seen h
   refine⟨fun q hq d hqd=>?_,fun i j p q d hi hj hp hq=>?_⟩
   ·rcases gc.1 hq with rfl|hq
    ·rw [hd]at hqd;cases hqd
    ·exact h1 q hq d hqd
   ·cases i with
    |zero=>simp at hi;subst hi;rw [hd]at hp;cases hp
    |succ i=>
     cases j with
     |zero=>simp at hj;subst hj;rw [hd]at hq;cases hq
     |succ j=>rw [h2 i j p q d (by simpa using hi) (by simpa using hj) hp hq]
  |some d0=>
   rw [hd]at h
   simp only [km,qW,yD]at h
   obtain⟨⟨g1,g2⟩,g3⟩:=h
   obtain⟨h1,h2⟩:=ih (d0::seen) g3
   have hns:d0∉seen:=fun hm=>by
    have:seen.any (Nat.beq d0)=true:=xb.2 ⟨d0,hm,Nat.beq_refl d0⟩
    rw [this]at g2;cases g2
   refine⟨fun q hq d hqd=>?_,fun i j p q d hi hj hp hq=>?_⟩
   ·rcases gc.1 hq with rfl|hq
    ·rw [hd]at hqd;cases hqd;exact⟨g1,hns⟩
    ·obtain⟨k1,k2⟩:=h1 q hq d hqd
     exact⟨k1,fun hm=>k2 (mS _ hm)⟩
   ·cases i with
    |zero=>
     cases j with
     |zero=>rfl
     |succ j=>
      simp at hi;subst hi
      rw [hd]at hp;cases hp
      exact absurd (gV ..) (h1 q (q9 (by simpa using hj)) d0 hq).2
    |succ i=>
     cases j with
     |zero=>
      simp at hj;subst hj
      rw [hd]at hq;cases hq
      exact absurd (gV ..) (h1 p (q9 (by simpa using hi)) d0 hp).2
     |succ j=>rw [h2 i j p q d (by simpa using hi) (by simpa using hj) hp hq]
def BV:List Oper→List Ty→iO→iO
 |o::l,t::ts,G=>match o.dst with
  |some d=>(d,t)::BV l ts G
  |none=>BV l ts G
 |_,_,G=>G
theorem zu(l:List Oper): ∀(ts:List Ty) (k:Nat) (t:Ty),ts.length=l.length→look (BV l ts G) k=some t→
  (∃(j:Nat) (o:Oper),l[j]? =some o∧o.dst=some k∧ts[j]? =some t)∨(look G k=some t∧ ∀o:Oper,o∈l→o.dst≠some k):=by
 induction l with
 |nil=>
  intro ts k t hl h
  have:ts=[]:=ve (by simpa using hl)
  subst this
  exact .inr ⟨h,fun _ h=>(by cases h)⟩
 |cons o l ih=>
  intro ts k t hl h
  cases ts with
  |nil=>simp at hl
  |cons u ts=>
   unfold BV at h
   have hl' :ts.length=l.length:=by simpa using hl
   have lift:((∃(j:Nat) (p:Oper),l[j]? =some p∧p.dst=some k∧ts[j]? =some t)∨(look G k=some t∧ ∀p:Oper,p∈l→p.dst≠some k))→o.dst≠some k→
     (∃(j:Nat) (p:Oper),(o::l)[j]? =some p∧p.dst=some k∧(u::ts)[j]? =some t)∨(look G k=some t∧ ∀p:Oper,p∈o::l→p.dst≠some k):=by
    rintro(⟨j,p,h1,h2,h3⟩|⟨h1,h2⟩) hne
    ·exact .inl ⟨j+1,p,by simpa using h1,h2,by simpa using h3⟩
    ·exact .inr ⟨h1,fun p hp=>(gc.1 hp).elim (fun e=>by subst e;exact hne) (h2 p)⟩
   cases hd:o.dst with
   |none=>
    rw [hd]at h
    exact lift (ih ts k t hl' h) (by rw [hd];exact fun e=>by cases e)
   |some d=>
    rw [hd]at h
    simp only at h
    unfold look at h
    by_cases hb:Nat.beq d k=true
    ·rw [hb]at h
     have:=kp hb
     subst this
     have e:u=t:=by simpa using h
     subst e
     exact .inl ⟨0,o,rfl,hd,rfl⟩
    ·rw [tX]at hb
     rw [hb]at h
     refine lift (ih ts k t hl' h) ?_
     rw [hd]
     intro e
     have:d=k:=kX e
     subst this
     simp at hb
abbrev TS:=List Nat×(List OI→Ty)
def TS.at(p:TS)(σ:Nat→OI):Ty:=p.2 (p.1.map σ)
def tc(t:Ty):TS:=([],fun _=>t)
def F6(Ss:List ((Nat→OI)→List OE))(c:Nat)(σ:Nat→OI):List OE:=match Ss[c]? with|some f=>f σ|none=>[]
structure NS where
 slot:Nat
 ty:(Nat→OI)→Ty
 src:Option Nat
def NS.at(n:NS)(σ:Nat→OI):Nd:=⟨n.slot,n.ty σ,n.src⟩
def Ku(G:iO)(ts:List TS)(n:NS):Prop:=
 match n.src with
 |some j=> ∀σ,(ts[j]?).map (fun p=>p.at σ)=some (n.ty σ)
 |none=> ∀σ,look G n.slot=some (n.ty σ)
def qT(G:iO)(ts:List TS):List NS→Prop
 |[]=>True
 |n::l=>Ku G ts n∧qT G ts l
theorem qT.mem{ts:List TS}: ∀{l:List NS},qT G ts l→ ∀n∈l,Ku G ts n
 |_::_,⟨h,_⟩,_,.head _=>h
 |_::_,⟨_,h⟩,_,.tail _ hm=>qT.mem h _ hm
def qM(l:List NS)(σ:Nat→OI):iO:=gj (l.map (·.at σ))
def HR(ts:List TS)(σ:Nat→OI):List Ty:=ts.map fun p=>p.at σ
def FO(L:List Oper)(es:List Bool)(i:Nat)(p:TS):Bool:=p.1.all fun k=>(es[k]?).getD false&&(Nat.beq k i||jz L L.length i k)
def LB(L:List Oper)(es:List Bool)(i lo hi:Nat):Bool:=
 Nat.ble lo (eg es es.length)&&(List.range es.length).all fun k=> !((es[k]?).getD false)||((Nat.ble lo (eg es k)||jz L L.length i k)&&(Nat.blt (eg es k) hi||jz L L.length k i))
def DS(E:En)(G:iO)(L:List Oper)(ts:List TS)(Ss:List ((Nat→OI)→List OE))(es0:List Bool):Nat→Nat→List Oper→List Bool→Prop
 |_,_,[],_=>True
 |i,c,o::rest,false::es=>(∃(needs:List NS) (t:TS) (lo hi:Nat),ts[i]? =some t∧qT G ts needs∧(needs.all fun n=>ld L o i (n.at fun _=>kY))=true∧dF i o=true∧FO L es0 i t=true∧LB L es0 i lo hi=true∧o.dst.isSome=true∧
   ∀c σ,lo≤c→c≤hi→bJ E (F6 Ss c σ) L.toArray (qM needs σ) o (t.at σ))∧DS E G L ts Ss es0 (i+1) c rest es
 |i,c,o::rest,true::es=>(∃(needs:List NS) (t:TS),ts[i]? =some t∧qT G ts needs∧(needs.all fun n=>ld L o i (n.at fun _=>kY))=true∧dF i o=true∧FO L es0 i t=true∧
   ∀σ,mQ E L.toArray (F6 Ss c σ) (qM needs σ) o (fun x=>F6 Ss (c+1) (CX σ i x)) (fun x=>t.at (CX σ i x)))∧DS E G L ts Ss es0 (i+1) (c+1) rest es
 |_,_,_::_,[]=>False
variable{L:List Oper}{Ss:List ((Nat→OI)→List OE)}{lo:Int}{σ:Type}
theorem DS.get{ts:List TS}{es0:List Bool}: ∀(r:List Oper) (es:List Bool) (k c:Nat),DS E G L ts Ss es0 k c r es→ ∀(j:Nat) (o:Oper),r[j]? =some o→
    ∃e,es[j]? =some e∧ ∃(needs:List NS) (t:TS),ts[k+j]? =some t∧qT G ts needs∧(needs.all fun n=>ld L o (k+j) (n.at fun _=>kY))=true∧dF (k+j) o=true∧FO L es0 (k+j) t=true∧
      (match e with
       |false=>o.dst.isSome=true∧ ∃lo hi,LB L es0 (k+j) lo hi=true∧ ∀c σ,lo≤c→c≤hi→bJ E (F6 Ss c σ) L.toArray (qM needs σ) o (t.at σ)
       |true=> ∀σ,mQ E L.toArray (F6 Ss (c+eg es j) σ) (qM needs σ) o (fun x=>F6 Ss (c+eg es j+1) (CX σ (k+j) x)) (fun x=>t.at (CX σ (k+j) x))):=by
  intro r
  induction r with
  |nil=>intro es k c _ j o h;simp at h
  |cons p r ih=>
    intro es k c h j o ho
    cases es with
    |nil=>exact h.elim
    |cons e es=>
      cases e with
      |false=>
        obtain⟨⟨needs,t,lo,hi,g1,g2,g3,g4,g5,g6,g7,g8⟩,h2⟩:=h
        cases j with
        |zero=>
          simp at ho;subst ho
          exact⟨false,rfl,needs,t,g1,g2,g3,g4,g5,g7,lo,hi,g6,g8⟩
        |succ j=>
          obtain⟨e',g1,g2⟩:=ih es (k+1) _ h2 j o (by simpa using ho)
          refine⟨e',by simpa using g1,?_⟩
          rw [show k+1+j=k+(j+1)from by omega]at g2
          have e1:c+eg (false::es) (j+1)=c+eg es j:=by simp [eg]
          rw [e1];exact g2
      |true=>
        obtain⟨h1,h2⟩:=h
        cases j with
        |zero=>
          simp at ho;subst ho
          exact⟨true,rfl,h1⟩
        |succ j=>
          obtain⟨e',g1,g2⟩:=ih es (k+1) _ h2 j o (by simpa using ho)
          refine⟨e',by simpa using g1,?_⟩
          rw [show k+1+j=k+(j+1)from by omega]at g2
          have e1:c+eg (true::es) (j+1)=c+1+eg es j:=by simp [eg];omega
          rw [e1];exact g2
structure Ld(E:En)(G:iO)(l:List Oper)(ts:List TS)(Ss:List ((Nat→OI)→List OE))(es:List Bool)(done:Array Bool)(a:Act)(w:World)(S:SH)(σ:Nat→OI)(c:Nat):Prop where
 ext:d6 E.B E.w0 E.S0 w S
 sat:ft w S
 own:cj E.base E.B w S (F6 Ss c σ)
 size:a.tmps.size=E.N.n
 defers:a.defers=E.N.ds
 dsz:done.size=l.length
 down: ∀j o,l[j]? =some o→done.getD j false=true→ ∀e∈o.after,Region.binds .any e=true→done.getD e.on false=true
 old: ∀k t,look G k=some t→(∀j o,l[j]? =some o→done.getD j false=true→o.dst≠some k)→t.p S (a.tmps.getD k undef)
 new: ∀j o d p,l[j]? =some o→done.getD j false=true→o.dst=some d→ts[j]? =some p→(p.at σ).p S (a.tmps.getD d undef)
 deps: ∀j p,done.getD j false=true→ts[j]? =some p→ ∀k∈p.1,done.getD k false=true
 chain: ∀k,es[k]? =some true→(done.getD k false=true↔eg es k<c)
section
variable{ts:List TS}{es:List Bool}
theorem Ld.need{done:Array Bool}{σ:Nat→OI}{c:Nat}(h:Ld E G L ts Ss es done a w S σ c){i:Nat}(hi:L[i]? =some o)(hun:done.getD i true=false)(hwait: ∀e∈o.after,Region.binds .any e=true→done.getD e.on false=true){needs:List NS}(h1:qT G ts needs)(h2:(needs.all fun n=>ld L o i (n.at fun _=>kY))=true):cX E.N S a (qM needs σ):=by
 have hlt:i<done.size:=by rw [h.dsz];exact(m8.1 hi).1
 have hun' :done.getD i false=false:=by
  simp [hlt]at hun ⊢;exact hun
 refine⟨h.size,h.defers,?_⟩
 have key: ∀n∈needs,(n.ty σ).p S (a.tmps.getD n.slot undef):=by
  intro n hn
  have hs:=kH.1 h2 n hn
  have ho:=h1.mem n hn
  unfold ld NS.at at hs
  unfold Ku at ho
  cases hsrc:n.src with
  |some j=>
   rw [hsrc]at hs ho
   simp only [km]at hs
   obtain⟨hs1,hs2⟩:=hs
   cases hj:L[j]? with
   |none=>rw [hj]at hs1;cases hs1
   |some p=>
    rw [hj]at hs1
    cases hd:p.dst with
    |none=>simp only [hd]at hs1;cases hs1
    |some d=>
     simp only [hd]at hs1
     have hd' :=kp hs1
     subst hd'
     have hdone:done.getD j false=true:=by
      unfold vR at hs2
      obtain⟨e,he0,hb⟩:=xb.1 hs2
      have he:e∈o.after:=by simpa using he0
      simp only [km]at hb
      have:=hwait e he hb.2
      rwa [kp hb.1]at this
     have hm:=ho σ
     cases hf:ts[j]? with
     |none=>rw [hf]at hm;simp at hm
     |some f=>
      rw [hf]at hm
      have e:f.at σ=n.ty σ:=by simpa using hm
      rw [←e]
      exact h.new j p n.slot f hj hdone hd hf
  |none=>
   rw [hsrc]at hs ho
   refine h.old _ _ (ho σ) fun j p hj hdone hd=>?_
   have:=kH.1 hs p (q9 hj)
   simp only [hd,Nat.beq_refl,va,s5]at this
   unfold vR at this
   obtain⟨e,he0,hb⟩:=xb.1 this
   have he:e∈p.after:=by simpa using he0
   simp only [km]at hb
   have h3:=h.down j p hj hdone e he hb.2
   rw [kp hb.1]at h3
   rw [h3]at hun'
   cases hun'
 clear h1 h2
 intro k t hk
 unfold qM at hk
 induction needs with
 |nil=>simp [gj,look]at hk
 |cons n needs ih=>
  simp only [wu]at hk
  unfold gj look at hk
  by_cases hb:Nat.beq n.slot k=true
  ·have hb' :Nat.beq (n.at σ).slot k=true:=hb
   rw [hb']at hk
   have:=kp hb
   subst this
   have h9:some (n.at σ).ty=some t:=by simpa using hk
   have e:n.ty σ=t:=kX h9
   rw [←e]
   exact key n (gV ..)
  ·rw [tX]at hb
   have hb' :Nat.beq (n.at σ).slot k=false:=hb
   rw [hb']at hk
   exact ih (fun m hm=>key m (mS _ hm)) hk
theorem Ld.step{done:Array Bool}{σ σ' :Nat→OI}{c c' :Nat}(h:Ld E G L ts Ss es done a w S σ c){i:Nat}{p0:TS}{C:Nat→Prop}(hi:L[i]? =some o)(hdN: ∀d,o.dst=some d→d<E.N.n)(hs2: ∀d,o.dst=some d→ ∀j p,L[j]? =some p→done.getD j false=true→p.dst=some d→i=j)(hwait: ∀e∈o.after,Region.binds .any e=true→done.getD e.on false=true)(ht:ts[i]? =some p0)(hun:done.getD i true=false)(hdep: ∀k∈p0.1,k=i∨done.getD k false=true)(hext:d6 C w S w' S')(hC: ∀b,C b→E.base≤b∨E.B b)(hsat:ft w' S')(hown:cj E.base E.B w' S' (F6 Ss c' σ'))(hσ: ∀k,k≠i→σ' k=σ k)(hv:(p0.at σ').p S' v)(hch: ∀k,es[k]? =some true→((done.setIfInBounds i true).getD k false=true↔eg es k<c')):
  Ld E G L ts Ss es (done.setIfInBounds i true) (a.put o.dst v) w' S' σ' c' :=by
 have hlt:i<done.size:=by rw [h.dsz];exact(m8.1 hi).1
 have hset: ∀j,(done.setIfInBounds i true).getD j false=true→j=i∨done.getD j false=true:=fun j hj=>by
  by_cases hij:i=j
  ·exact .inl hij.symm
  ·rw [u9 false hij]at hj;exact .inr hj
 have hseti:(done.setIfInBounds i true).getD i false=true:=by simp [hlt]
 have hun' :done.getD i false=false:=by simp [hlt]at hun ⊢;exact hun
 have hput: ∀k,(∀d,o.dst=some d→d≠k)→(a.put o.dst v).tmps.getD k undef=a.tmps.getD k undef:=fun k hk=>by
  cases hd:o.dst with
  |none=>rfl
  |some d=>
   have hda:d<a.tmps.size:=by rw [h.size];exact hdN d hd
   rw [mu hda,cZ (hk d hd)]
 refine⟨h.ext.step hext hC,hsat,hown,?_,?_,by simp [h.dsz],fun j p hj hdone e he hb=>?_,fun k u hk hno=>?_,fun j p d' u hj hdone hd' hu=>?_,fun j u hj hu k hk=>?_,hch⟩
 ·cases o.dst with
  |none=>exact h.size
  |some d=>simp [Act.put,h.size]
 ·cases o.dst with
  |none=>exact h.defers
  |some d=>exact h.defers
 ·rcases hset j hdone with rfl|hj'
  ·rw [hi]at hj
   have:o=p:=by simpa using hj
   subst this
   exact pU (hwait e he hb)
  ·exact pU (h.down j p hj hj' e he hb)
 ·rw [hput k fun d hd e=>hno i o hi hseti (by rw [hd,e])]
  exact u.mono hext.keep (h.old k u hk fun j p hj hdone=>hno j p hj (pU hdone))
 ·by_cases hij:j=i
  ·subst hij
   rw [hi]at hj
   have:o=p:=by simpa using hj
   subst this
   have hda:d' <a.tmps.size:=by rw [h.size];exact hdN d' hd'
   rw [hd',mu hda,c9 rfl]
   rw [ht]at hu
   have:p0=u:=by simpa using hu
   subst this
   exact hv
  ·have hj' :=(hset j hdone).resolve_left hij
   rw [hput d' fun d hd e=>by subst e;exact hij (hs2 d hd j p hj hj' hd').symm]
   have e1:u.at σ' =u.at σ:=congrArg u.2 (List.map_congr_left fun k hk=>hσ k fun e=>by
     subst e
     rw [h.deps j u hj' hu k hk]at hun';cases hun')
   rw [e1]
   exact Ty.mono _ hext.keep (h.new j p d' u hj hj' hd' hu)
 ·rcases hset j hj with rfl|hj'
  ·rw [ht]at hu
   have:p0=u:=by simpa using hu
   subst this
   rcases hdep k hk with rfl|h'
   ·exact hseti
   ·exact pU h'
  ·exact pU (h.deps j u hj' hu k hk)
end
theorem Bz{l t:List Oper}{ts:List TS}{es:List Bool}(hsl:rl E.N.n [] l=true)(hlen:ts.length=l.length)(hesl:es.length=l.length)(hd:DS E G (l++t) ts Ss es 0 0 l es)(hch:DW (l++t) es=true)(ht:sR (l++t) l.length t.length=true)(hQ: ∀a w S σ,St E (F6 Ss (eg es es.length) σ) (BV l (HR ts σ) G) a w S→wpListIn (fw E.r) 0 E.P (l++t).toArray Q t a w):
  ∀(fuel:Nat) (done:Array Bool) (a:Act) (w:World) (S:SH) (σ:Nat→OI) (c:Nat),ic done=fuel→(∀j,l.length≤j→done.getD j false=false)→c≤eg es es.length→Ld E G (l++t) ts Ss es done a w S σ c→wpAnyIn (fw E.r) 0 E.P .any (l++t).toArray Q fuel done a w:=by
 have hL1: ∀i o,i<l.length→(l++t)[i]? =some o→l[i]? =some o:=fun i o hi h=>by rwa [yF hi]at h
 have hL2: ∀i o,l[i]? =some o→(l++t)[i]? =some o:=fun i o h=>by rw [yF (m8.1 h).1];exact h
 have htail: ∀m o,l.length≤m→(l++t)[m]? =some o→qA (l++t) m=true∧dF m o=true:=fun m o hm ho=>by
  have hml:m<(l++t).length:=(m8.1 ho).1
  rw [lJ]at hml
  unfold sR at ht
  have:=kH.1 ht (m-l.length) (by simp;omega)
  rw [show l.length+(m-l.length)=m from by omega,ho]at this
  simp only [km]at this
  exact⟨this.1,this.2.1⟩
 have hget:=fun i o (hi:l[i]? =some o)=>DS.get l es 0 0 hd i o hi
 have hedge: ∀i o,(l++t)[i]? =some o→dF i o=true:=fun i o hi=>by
  rcases kF i l.length with h|h
  ·obtain⟨_,_,_,_,_,_,_,h,_⟩:=hget i o (hL1 i o h hi)
   simpa using h
  ·exact(htail i o h hi).2
 obtain⟨hs1,hs2⟩:=vW l [] hsl
 have fin: ∀fuel done a w S σ c,ic done=fuel→(∀j,l.length≤j→done.getD j false=false)→c≤eg es es.length→Ld E G (l++t) ts Ss es done a w S σ c→(∀i,i<l.length→done.getD i false=true)→wpAnyIn (fw E.r) 0 E.P .any (l++t).toArray Q fuel done a w:=by
  intro fuel done a w S σ c hu hfree hcle h hall
  have hcc:c=eg es es.length:=by
   rcases kF c (eg es es.length)with hlt|hge
   ·obtain⟨i,h1,h2,h3⟩:=qF hlt
    have:=(h.chain i h2).1 (hall i (by omega))
    omega
   ·omega
  subst hcc
  refine s8 (n:=l.length) (fun m o hm ho=>(htail m o hm ho).1) hedge t l.length done fuel a w (ia _) (by simp) h.dsz (fun j hj=>⟨fun hjd=>?_,fun hlt=>hall j hlt⟩) hu
   (hQ a w S σ ⟨h.ext,h.sat,h.own,h.size,h.defers,fun j u hj=>?_⟩)
  ·rcases kF j l.length with h' |h'
   ·exact h'
   ·rw [hfree j h']at hjd;cases hjd
  ·rcases zu l (HR ts σ) j u (by unfold HR;rw [List.length_map];exact hlen) hj with⟨i,o,h1,h2,h3⟩|⟨h1,h2⟩
   ·unfold HR at h3
    rw [CO]at h3
    cases hf:ts[i]? with
    |none=>rw [hf]at h3;simp at h3
    |some f=>
     rw [hf]at h3
     have e:f.at σ=u:=by simpa using h3
     rw [←e]
     exact h.new i o j f (hL2 i o h1) (hall i (m8.1 h1).1) h2 hf
   ·refine h.old j u h1 fun i o ho hdn=>?_
    rcases kF i l.length with h' |h'
    ·exact h2 o (q9 (hL1 i o h' ho))
    ·rw [hfree i h']at hdn;cases hdn
 have lower: ∀done a w S σ c i,(∀j,l.length≤j→done.getD j false=false)→Ld E G (l++t) ts Ss es done a w S σ c→i∈Region.ready .any (l++t).toArray done→l.length≤i→ ∀j,j<l.length→done.getD j false=true:=by
  intro done a w S σ c i hfree h hi hge j hj
  obtain⟨hun,p,hp,hwait⟩:=s4.1 hi
  have hp' :(l++t)[i]? =some p:=by simpa using hp
  have hcov:=(htail i p hge hp').1
  unfold qA at hcov
  have hre:=kH.1 hcov j (by simp;omega)
  exact ek h.down _ i j (fun q hq e he hb=>by
   have:q=p:=by rw [hp']at hq;simpa using hq.symm
   subst this
   exact hwait e he hb) hre
 have hchain: ∀i j,j<i→es[i]? =some true→es[j]? =some true→jz (l++t) (l++t).length i j=true:=fun i j hij h1 h2=>by
  unfold DW at hch
  have hil:i<es.length:=(m8.1 h1).1
  have:=kH.1 (kH.1 hch i (by simpa using hil)) j (by simpa using hij)
  rw [h1,h2]at this
  simpa using this
 intro fuel
 induction fuel with
 |zero=>
  intro done a w S σ c hu hfree hcle h
  exact fin 0 done a w S σ c hu hfree hcle h fun i hi=>oP hu (by rw [h.dsz,lJ];omega)
 |succ fuel ih=>
  intro done a w S σ c hu hfree hcle h
  by_cases hall: ∀i,i<l.length→done.getD i false=true
  ·exact fin _ done a w S σ c hu hfree hcle h hall
  have hready0: ∀m i,i<m→i<l.length→Region.ready .any (l++t).toArray done=[]→done.getD i false=true:=by
   intro m
   induction m with
   |zero=>intro i h;omega
   |succ m ihm=>
    intro i him hil hr
    have his:i<done.size:=by rw [h.dsz,lJ];omega
    by_cases hdn:done.getD i true=true
    ·rw [←j8 his];exact hdn
    ·exfalso
     obtain⟨o,ho⟩: ∃o,(l++t)[i]? =some o:=⟨l[i],hL2 i _ (lK hil)⟩
     have hmem:i∈Region.ready .any (l++t).toArray done:=by
      rw [s4]
      refine⟨by simpa using hdn,o,by simpa using ho,fun e he hb=>?_⟩
      have:=hedge i o ho
      unfold dF at this
      have:=kH.1 this e (by simpa using he)
      simp only [hb,va,s5,qW]at this
      exact ihm e.on (by omega) (by omega) hr
     rw [hr]at hmem;cases hmem
  refine⟨fun hr=>absurd (fun i hi=>hready0 (i+1) i (by omega) hi hr) hall,fun i hi=>?_⟩
  have hil:i<l.length:=by
   rcases kF i l.length with h' |h'
   ·exact h'
   ·exact absurd (lower done a w S σ c i hfree h hi h') hall
  obtain⟨hun,o,ho,hwait⟩:=s4.1 hi
  have ho' :(l++t)[i]? =some o:=by simpa using ho
  have hol:=hL1 i o hil ho'
  obtain⟨e,he,needs,u,h1,h2,h3,_,h4,h5⟩:=hget i o hol
  rw [sH]at h1 h3 h4
  have hF:=h.need ho' hun hwait h2 h3
  have his:i<done.size:=by rw [h.dsz,lJ];omega
  have hun' :done.getD i false=false:=by rw [←j8 his];exact hun
  have hu' :ic (done.setIfInBounds i true)=fuel:=by have:=lL hun;omega
  have huq: ∀d,o.dst=some d→ ∀j p,(l++t)[j]? =some p→done.getD j false=true→p.dst=some d→i=j:=fun d hdd j p hj hjd hpd=>by
   rcases kF j l.length with h' |h'
   ·exact hs2 i j o p d hol (hL1 j p h' hj) hdd hpd
   ·rw [hfree j h']at hjd;cases hjd
  have hfree' : ∀j,l.length≤j→(done.setIfInBounds i true).getD j false=false:=fun j hj=>by
   rw [u9 false (by omega)];exact hfree j hj
  have hbl:E.base≤w.heap.size:=h.ext.size
  have hwaits: ∀q,(l++t)[i]? =some q→ ∀e∈q.after,Region.binds .any e=true→done.getD e.on false=true:=fun q hq e he hb=>by
   have:q=o:=by rw [ho']at hq;simpa using hq.symm
   subst this
   exact hwait e he hb
  have hdpp: ∀k∈u.1,k=i∨done.getD k false=true:=fun k hk=>by
   have:=kH.1 h4 k hk
   simp only [km,Ac]at this
   rcases this.2 with hb|hb
   ·exact .inl (kp hb)
   ·exact .inr (ek h.down _ i k hwaits hb)
  have hdNN: ∀d,o.dst=some d→d<E.N.n:=fun d hd=>(hs1 o (q9 hol) d hd).1
  unfold wpOpIn
  rw [ho]
  show if _ then _ else _
  cases e with
  |false=>
   simp only at h5
   obtain⟨hdS,lo,hi',hwin,h5⟩:=h5
   rw [sH]at hwin
   obtain⟨d,hdd⟩:=Option.isSome_iff_exists.1 hdS
   have hdN:=(hs1 o (q9 hol) d hdd).1
   unfold LB at hwin
   rw [km]at hwin
   obtain⟨hw1,hw2⟩:=hwin
   have hw1' :=ko hw1
   have hwk: ∀k,es[k]? =some true→(Nat.ble lo (eg es k)=true∨jz (l++t) (l++t).length i k=true)∧(Nat.blt (eg es k) hi' =true∨jz (l++t) (l++t).length k i=true):=fun k hk=>by
    have hkl:k<es.length:=(m8.1 hk).1
    have:=kH.1 hw2 k (by simpa using hkl)
    rw [hk]at this
    simpa using this
   have hlo:lo≤c:=by
    rcases kF c lo with hlt|hge
    ·exfalso
     obtain⟨k,hk1,hk2,hk3⟩:=qF (es:=es) (c:=c) (k:=es.length) (by omega)
     rcases(hwk k hk2).1 with hb|hb
     ·have:=ko hb;omega
     ·have:=(h.chain k hk2).1 (ek h.down _ i k hwaits hb)
      omega
    ·exact hge
   have hhi:c≤hi' :=by
    rcases kF hi' c with hlt|hge
    ·exfalso
     obtain⟨k,hk1,hk2,hk3⟩:=qF (es:=es) (c:=hi') (k:=es.length) (by omega)
     rcases(hwk k hk2).2 with hb|hb
     ·simp only [qW]at hb;omega
     ·have hkd:done.getD k false=true:=(h.chain k hk2).2 (by omega)
      have:=ek h.down _ k i (fun q hq e he hb=>h.down k q hq hkd e he hb) hb
      rw [this]at hun';cases hun'
    ·exact hge
   have h6:=h5 c σ hlo hhi a w S h.sat h.own hF
   have hch' : ∀k,es[k]? =some true→((done.setIfInBounds i true).getD k false=true↔eg es k<c):=fun k hk=>by
    have hne:i≠k:=fun e=>by subst e;rw [he]at hk;cases hk
    rw [u9 false hne];exact h.chain k hk
   by_cases hw:Region.wanted o (yielded (l++t).toArray a.tmps)=true
   ·rw [c9 hw]at h6 ⊢
    refine gW (fun a' w' ⟨v,S',ha,hx,hs,hv⟩=>?_) h6
    subst ha
    exact ih _ _ _ S' _ c hu' hfree' hcle (h.step ho' hdNN huq hwait h1 hun hdpp hx (fun _ hb=>hb.elim) hs (h.own.ext0 hx) (fun _ _=>rfl) hv hch')
   ·rw [cZ hw]at h6 ⊢
    exact⟨fun _ _=>trivial,ih _ _ _ S _ c hu' hfree' hcle (h.step ho' hdNN huq hwait h1 hun hdpp (d6.refl kV _ _) (fun _ hb=>hb.elim) h.sat h.own (fun _ _=>rfl) h6 hch')⟩
  |true=>
   simp only [sH]at h5
   -- it is the next one of the chain
   have hca:eg es i=c:=by
    have hn: ¬eg es i<c:=fun hlt=>by rw [(h.chain i he).2 hlt]at hun';cases hun'
    rcases kF c (eg es i)with hlt|hge
    ·exfalso
     obtain⟨k,hk1,hk2,hk3⟩:=qF hlt
     have hkd:done.getD k false=true:=ek h.down _ i k hwaits (hchain i k hk1 he hk2)
     have:=(h.chain k hk2).1 hkd
     omega
    ·omega
   subst hca
   have h6:=h5 σ a w S h.sat h.own hF hbl
   have hch' : ∀k,es[k]? =some true→((done.setIfInBounds i true).getD k false=true↔eg es k<eg es i+1):=fun k hk=>by
    by_cases hik:i=k
    ·subst hik
     constructor
     ·intro _;omega
     ·intro _;simp [his]
    ·rw [u9 false hik,h.chain k hk]
     constructor
     ·intro h;omega
     ·intro hlt
      rcases kF i k with hlk|hlk
      ·have:=yp hlk he;omega
      ·exact yp (by omega) hk
   have hcle' :eg es i+1≤eg es es.length:=yp (by omega) he
   by_cases hw:Region.wanted o (yielded (l++t).toArray a.tmps)=true
   ·rw [c9 hw]at h6 ⊢
    refine gW (fun a' w' ⟨v,S',x,ha,hx,hs,hown,hv⟩=>?_) h6
    subst ha
    exact ih _ _ _ S' _ _ hu' hfree' hcle' (h.step ho' hdNN huq hwait h1 hun hdpp hx (fun b ⟨f,hf,hb⟩=>(cj.mem h.own f hf).2 b hb) hs hown (fun k hk=>xo σ x hk) hv hch')
   ·rw [cZ hw]at h6 ⊢
    obtain⟨x,hown,hv⟩:=h6
    exact⟨fun _ _=>trivial,ih _ _ _ S _ _ hu' hfree' hcle' (h.step ho' hdNN huq hwait h1 hun hdpp (d6.refl kV _ _) (fun _ hb=>hb.elim) h.sat hown (fun k hk=>xo σ x hk) hv hch')⟩
theorem kA{id:Nat}(m:Nat)(ts:List TS)(es:List Bool)(Ss:List ((Nat→OI)→List OE))(hO:Ss[0]? =some fun _=>O)(hm:E.P.follows .mixedOrders=true)(hsl:rl E.N.n [] (L.take m)=true)(hlen:ts.length=(L.take m).length)(hesl:es.length=(L.take m).length)(hch:DW L es=true)(ht:sR L (L.take m).length (L.drop m).length=true)(hd:DS E G L ts Ss es 0 0 (L.take m) es)(k: ∀σ:Nat→OI,RG E L.toArray Q (L.drop m) (F6 Ss (eg es es.length) σ) (BV (L.take m) (HR ts σ) G)):CG E Q (.region id L.toArray true) O G:=fun a w S st=>by
 have hL:L=L.take m++L.drop m:=(qX m L).symm
 generalize L.take m=l at hL hsl hlen hesl ht hd k
 generalize L.drop m=t at hL ht k
 subst hL
 refine wpIn_region_any hm ?_
 obtain⟨he,hs⟩:=sa (w:=w) st.sat
 have hO0:F6 Ss 0 (fun _=>kY)=O:=by unfold F6;rw [hO]
 refine Bz hsl hlen hesl hd hch ht (fun a w S σ st=>k σ a w S st) _ _ _ _ S (fun _=>kY) 0 ?_ (fun j _=>?_) (gx _)
  ⟨st.ext.step0 he,hs,by rw [hO0];exact st.own.ext0 he,st.facts.size,st.facts.defers,by simp,fun j o hj hdone=>?_,fun k t hk _=>st.facts.at_ k t hk,fun j o d t hj hdone=>?_,fun j p hdone=>?_,fun k _=>⟨fun hdone=>?_,fun h=>(by omega)⟩⟩
 ·unfold ic;rw [D8,D6];simp
 ·simp [s7];split<;>rfl
 ·simp [s7]at hdone
  split at hdone<;>simp at hdone
 ·simp [s7]at hdone
  split at hdone<;>simp at hdone
 ·simp [s7]at hdone
  split at hdone<;>simp at hdone
 ·simp [s7]at hdone
  split at hdone<;>simp at hdone
theorem s9{p:Nat→(Nat→OI)→Prop}{lo:Nat}(h: ∀σ,p lo σ): ∀c σ,lo≤c→c≤lo→p c σ:=fun c σ h1 h2=>by
 have:c=lo:=by omega
 subst this;exact h σ
theorem yI{p:Nat→(Nat→OI)→Prop}{lo hi:Nat}(h: ∀σ,p lo σ)(k: ∀c σ,lo+1≤c→c≤hi→p c σ): ∀c σ,lo≤c→c≤hi→p c σ:=fun c σ h1 h2=>by
 by_cases e:c=lo
 ·subst e;exact h σ
 ·exact k c σ (by omega) h2
variable{post:OI→List OE}
theorem yk{op:Op}{ty:TypeId}(hnd: ∀c,op≠ .defer c)(h: ∀a w S,ft w S→cj E.base E.B w S O→cX E.N S a G→E.base≤w.heap.size→ ∃w' S' x,(execOp a.eval ⟨none,op,ty,pos,after,g⟩).run E.P w= .ok .skip w' ∧d6 (tz O) w S w' S' ∧ft w' S' ∧cj E.base E.B w' S' (post x)):
  EffOK E O G ⟨none,op,ty,pos,after,g⟩ post (fun _=>wE):=fun a w S hs ho hf hb=>by
 obtain⟨w',S',x,h1,h2,h3,h4⟩:=h a w S hs ho hf hb
 refine⟨hnd,?_⟩
 rw [h1]
 exact⟨undef,S',x,rfl,h2,h3,h4,trivial⟩

abbrev HL:=List (Nat×Value)
def uA:HL→Nat→Option Value
 |[],_=>none
 |p::hs,o=>bif Nat.beq p.1 o then some p.2 else uA hs o
theorem sq: ∀{hs:HL} {o:Nat} {v:Value},uA hs o=some v→(o,v)∈hs
 |[],_,_,h=>by cases h
 |p::hs,o,v,h=>by
  unfold uA at h
  by_cases hb:Nat.beq p.1 o=true
  ·rw [hb]at h
   have e1:=kp hb
   have e2:p.2=v:=kX h
   subst e1 e2
   exact gV ..
  ·rw [tX]at hb
   rw [hb]at h
   exact mS _ (sq h)
def rH{α:Type}(r:Rp α)(hs:HL):Rp α where
 sz:=r.sz
 agg:=r.agg
 rc:=fun S cs x=>r.rc S cs x∧ ∀p∈hs,cs[p.1]? =some p.2
 mono:=fun h k=>⟨r.mono h k.1,k.2⟩
 len:=fun k=>r.len k.1
 one:=fun k=>r.one k.1
 sc:=r.sc
theorem Im{hs:HL}{get:α→β}(h:kl r off q get):kl (rH r hs) off q get:=fun S cs x k=>h S cs x k.1
theorem FR(h:cs[off]? =some v):(cs.drop off).take 1=[v]:=by
 have hlt:=(m8.1 h).1
 rw [oJ hlt,(m8.1 h).2]
 rfl
theorem Qt{hs:HL}(h:uA hs off=some v):kl (rH r hs) off rV (fun _=>v):=fun S cs x k=>by
 have h1:=k.2 _ (sq h)
 exact⟨FR h1,r.one k.1 v (q9 h1)⟩
def HZ(z:List Value):HL→Prop
 |[]=>True
 |p::hs=>z[p.1]? =some p.2∧HZ z hs
theorem HZ.all: ∀{hs:HL},HZ z hs→ ∀p∈hs,z[p.1]? =some p.2
 |_::_,⟨h,_⟩,_,.head _=>h
 |_::_,⟨_,h⟩,_,.tail _ hm=>HZ.all h _ hm
theorem zH{x:α}{hs:HL}(h: ∀S,r.rc S z x)(k:HZ z hs): ∀S,(rH r hs).rc S z x:=fun S=>⟨h S,k.all⟩
def LQ(hs:HL)(off sz:Nat):Bool:=hs.all fun p=>Nat.blt p.1 off||Nat.ble (off+sz) p.1
def PR(hs:HL)(off sz:Nat)(v:Option Value):HL→Prop
 |[]=>True
 |p::l=>((v=some p.2∧p.1=off∧sz=1)∨(uA hs p.1=some p.2∧(Nat.blt p.1 off||Nat.ble (off+sz) p.1)=true))∧PR hs off sz v l
theorem PR.all{hs:HL}{v:Option Value}: ∀{l:HL},PR hs off sz v l→ ∀p∈l,(v=some p.2∧p.1=off∧sz=1)∨(uA hs p.1=some p.2∧(Nat.blt p.1 off||Nat.ble (off+sz) p.1)=true)
 |_::_,⟨h,_⟩,_,.head _=>h
 |_::_,⟨_,h⟩,_,.tail _ hm=>PR.all h _ hm
theorem wn{ds:List Value}(hl:ds.length=sz)(hoff:off+sz≤cs.length)(h:(Nat.blt k off||Nat.ble (off+sz) k)=true):(cs.take off++ds++cs.drop (off+sz))[k]? =cs[k]? :=by
 simp only [Ac,qW,Nat.ble_eq]at h
 have ht:(cs.take off).length=off:=by simp;omega
 rcases h with h|h
 ·rw [yF (by simp;omega),yF (by omega),xd h]
 ·rw [List.getElem?_append_right (by simp;omega),wx]
  congr 1
  simp only [lJ,ht,hl];omega
theorem Hn{ds:List Value}(hd:ds=[v])(hoff:off+1≤cs.length):(cs.take off++ds++cs.drop (off+1))[off]? =some v:=by
 subst hd
 have ht:(cs.take off).length=off:=by simp;omega
 rw [yF (by simp;omega),List.getElem?_append_right (by omega),ht,Nat.sub_self]
 rfl
theorem Ky{hs:HL}(h:gp r off q set)(hk:LQ hs off q.sz=true)(hoff:Nat.ble (off+q.sz) r.sz=true):gp (rH r hs) off q set:=fun S cs x ds y h1 h2=>by
 refine⟨h S cs x ds y h1.1 h2,fun p hp=>?_⟩
 have hl:=r.len h1.1
 rw [wn (q.len h2) (by have:=ko hoff;omega) (kH.1 hk p hp)]
 exact h1.2 _ hp
section
section
variable{ty:TypeId}
theorem qH{op:Op}{t:OI→Ty}(h:EffOK E O G ⟨none,op,ty,pos,after,none⟩ post t)(k: ∀x,RG E ops Q rest (post x) G):RG E ops Q (⟨none,op,ty,pos,after,none⟩::rest) O G:= .of rfl fun a w S st=>
 j5 (fun a' w' ⟨v,S',x,ha,hx,hs,ho,hv⟩=>by
  subst ha
  exact k x _ _ S' ⟨st.ext.step hx fun b ⟨f,hf,hb⟩=>(cj.mem st.own f hf).2 b hb,hs,ho,st.facts.mono hx.keep⟩) (h a w S st.sat st.own st.facts st.base_le)
theorem jV{γ:Type}{r' :Rp γ}{x:α}{x' :γ}{p v:Operand}(ti:TI E.P U sz bytes agg z)(hsz:q.sz=sz)(hset:pP r r' off q x y x')(hoff:Nat.ble (off+q.sz) r.sz=true)(hp:aH E.N G p (tV (aO b off)))(hv:aH E.N G v (tD q y)):EffOK E (bx r T b x::O) G ⟨none,.store U p v,ty,pos,after,g⟩ (fun _=>bx r' T b x' ::O) (fun _=>wE):=yk (fun _ h=>(by cases h)) fun a w S hs ho hf hb=>by
 have h1:a.eval p=aO b off:=hp S a hf
 obtain⟨ds,h2,h3⟩:=hv S a hf
 obtain⟨⟨hno,cur,h5,h6⟩,_⟩:=ho.1
 have hl:=r.len h6
 have hoff' :=ko hoff
 obtain⟨w',hr,e1,e2,e3,e4,e5,e6⟩:=gR ti hsz h3 h5 (off:=off) (by simp at hl;omega)
 have hrun:(execOp a.eval ⟨none,.store U p v,ty,pos,after,g⟩).run E.P w= .ok .skip w' :=by
  simp [execOp,h1,h2,Instr.storeAt,aO,Instr.sureAddr,hr]
 obtain⟨g1,g2,g3⟩:=lO (O:=O) hs (bx r T b x) (bx r' T b x') ho (fun _=>Iff.rfl) (fun _=>Iff.rfl) ⟨e1,e2,e3,e4.1,e4.2⟩ e6 ⟨hno,_,e5,by simpa using hset S _ _ h6 h3⟩ hno
 exact⟨w',S,kY,hrun,g1.more fun k hk=>⟨_,gV ..,hk⟩,g2,g3⟩
theorem qx{hs hs' :HL}{x:α}{p v:Operand}(ti:TI E.P U 1 bytes false z)(hsz:q.sz=1)(hag:q.agg=false)(hset:gp r off q set)(hoff:Nat.ble (off+1) r.sz=true)(hk:PR hs off 1 (some u) hs')(hp:aH E.N G p (tV (aO b off)))(hv:aH E.N G v (tD q y))(hu:aH E.N G v (tV u)):EffOK E (bx (rH r hs) T b x::O) G ⟨none,.store U p v,ty,pos,after,g⟩ (fun _=>bx (rH r hs') T b (set x y)::O) (fun _=>wE):=yk (fun _ h=>(by cases h)) fun a w S hsat ho hf hb=>by
 have h1:a.eval p=aO b off:=hp S a hf
 obtain⟨ds,h2,h3⟩:=hv S a hf
 have hu' :a.eval v=u:=hu S a hf
 obtain⟨⟨hno,cur,h5,h6⟩,_⟩:=ho.1
 have hl:=r.len h6.1
 have hoff' :=ko hoff
 have hdl:=q.len h3
 have hds:ds=[u]:=by
  obtain⟨d,hd⟩:=List.length_eq_one_iff.1 (by rw [hdl,hsz]:ds.length=1)
  subst hd
  have e1:q.val [d]=d:=by simp [Rp.val,hag]
  rw [h2,e1]at hu'
  rw [hu']
 obtain⟨w',hr,e1,e2,e3,e4,e5,e6⟩:=gR ti hsz h3 h5 (off:=off) (by simp at hl;omega)
 have hrun:(execOp a.eval ⟨none,.store U p v,ty,pos,after,g⟩).run E.P w= .ok .skip w' :=by
  simp [execOp,h1,h2,Instr.storeAt,aO,Instr.sureAddr,hr]
 rw [hsz]at e5
 have hnew:(rH r hs').rc S (cur.toList.take off++ds++cur.toList.drop (off+1)) (set x y):=by
  have h7:=hset S _ _ _ _ h6.1 h3
  rw [hsz]at h7
  refine⟨h7,fun p hp=>?_⟩
  rcases hk.all p hp with⟨f1,f2,_⟩|⟨f1,f2⟩
  ·rw [f2]
   exact Hn (by rw [hds,kX f1]) (by omega)
  ·rw [wn (by rw [hdl,hsz]) (by omega) f2]
   exact h6.2 _ (sq f1)
 obtain⟨g1,g2,g3⟩:=lO (O:=O) hsat (bx (rH r hs) T b x) (bx (rH r hs') T b (set x y)) ho (fun _=>Iff.rfl) (fun _=>Iff.rfl) ⟨e1,e2,e3,e4.1,e4.2⟩ e6 ⟨hno,_,e5,by simpa using hnew⟩ hno
 exact⟨w',S,kY,hrun,g1.more fun k hk=>⟨_,gV ..,hk⟩,g2,g3⟩
end
section
variable{ty:TypeId}
theorem Gz{hs:HL}{x:α}{p:Operand}(ti:TI E.P U 1 bytes false z)(hk:uA hs off=some u)(hm:bx (rH r hs) T b x∈O)(hp:aH E.N G p (tV (aO b off))):
  bB E O G ⟨dst,.load U p,ty,pos,after,g⟩ (tV u):=(bL (q:=rV) ti rfl rfl (Qt hk) hm hp).imp fun _ _ h=>(p4.1 h).1
theorem cC{q:Rp α}{r:Rp β}{hs:HL}{x:β}{V:TypeId}{p:Operand}{l:Option Nat}(ti:TI E.P U 1 bytes false z)(hk:uA hs off=some (aQ l cap xs.length))(hm:bx (rH r hs) T b x∈O)(hm2:db q V l cap xs∈O)(hp:aH E.N G p (tV (aO b off))):
  bB E O G ⟨dst,.load U p,ty,pos,after,g⟩ (tO q l cap xs):=fun a w S hs' ho hf=>
 j5 (fun _ _ ⟨v,S',h1,h2,h3,h4⟩=>⟨v,S',h1,h2,h3,h4,by
  have h5:v=aQ l cap xs.length:=h4
  rw [h5]
  exact lc (((ho.ext0 h2).mem _ hm2).1)⟩) (Gz (g:=g) (ty:=ty) (pos:=pos) (after:=after) (dst:=dst) ti hk hm hp a w S hs' ho hf)
theorem Ie{t:Ty}(h1: ∀S v,t.p S v→v.oneCell' =true)(hx:aH E.N G x t):bB E O G ⟨dst,.box T x,ty,pos,after,g⟩ (bv (rT t) ()):=
 Dr (fun S a hf=>PS.2 ⟨h1 _ _ (hx S a hf),hx S a hf⟩)
end
def H3:HL→HL→Prop
 |[],_=>True
 |p::l,hs=>uA hs p.1=some p.2∧H3 l hs
theorem H3.all{hs:HL}: ∀{l:HL},H3 l hs→ ∀p∈l,p∈hs
 |_::_,⟨h,_⟩,_,.head _=>sq h
 |_::_,⟨_,h⟩,_,.tail _ hm=>H3.all h _ hm
end

variable{O' :List OE}
theorem EffOK.perm{t:OI→Ty}(h:EffOK E O' G o post t)(k: ∀{w S},cj E.base E.B w S O→cj E.base E.B w S O')(m: ∀f∈O',f∈O):EffOK E O G o post t:=fun a w S hs ho hf hb=>
 j5 (fun _ _ ⟨v,S',x,h1,h2,h3,h4,h5⟩=>⟨v,S',x,h1,h2.more fun _ ⟨f,hf,hk⟩=>⟨f,m f hf,hk⟩,h3,h4,h5⟩) (h a w S hs (k ho) hf hb)
variable{x0 x4:OE}
namespace EffOK
section
variable{t:OI→Ty}
theorem fr1(h:EffOK E (x1::x0::O) G o post t):EffOK E (x0::x1::O) G o post t:=h.perm (fun hw=>cj.swap hw) (fun f hf=>by simp only [gc]at hf ⊢;rcases hf with h|h|h<;>simp [h])
theorem fr2(h:EffOK E (x2::x0::x1::O) G o post t):EffOK E (x0::x1::x2::O) G o post t:=h.perm (fun hw=>oE hw) (fun f hf=>by simp only [gc]at hf ⊢;rcases hf with h|h|h|h<;>simp [h])
theorem fr3(h:EffOK E (x3::x0::x1::x2::O) G o post t):EffOK E (x0::x1::x2::x3::O) G o post t:=h.perm (fun hw=>oD hw) (fun f hf=>by simp only [gc]at hf ⊢;rcases hf with h|h|h|h|h<;>simp [h])
theorem fr4(h:EffOK E (x4::x0::x1::x2::x3::O) G o post t):EffOK E (x0::x1::x2::x3::x4::O) G o post t:=h.perm (fun hw=>oC hw) (fun f hf=>by simp only [gc]at hf ⊢;rcases hf with h|h|h|h|h|h<;>simp [h])
theorem fr6{x5 x6:OE}(h:EffOK E (x6::x0::x1::x2::x3::x4::x5::O) G o post t):EffOK E (x0::x1::x2::x3::x4::x5::x6::O) G o post t:=h.perm (fun hw=>oB hw) (fun f hf=>by simp only [gc]at hf ⊢;rcases hf with h|h|h|h|h|h|h|h<;>simp [h])
theorem fr7{x5 x6 x7:OE}(h:EffOK E (x7::x0::x1::x2::x3::x4::x5::x6::O) G o post t):EffOK E (x0::x1::x2::x3::x4::x5::x6::x7::O) G o post t:=h.perm (fun hw=>oA hw) (fun f hf=>by simp only [gc]at hf ⊢;rcases hf with h|h|h|h|h|h|h|h|h<;>simp [h])
theorem post_imp{post' :OI→List OE}(h:EffOK E O G o post t)(k: ∀{w S x},cj E.base E.B w S (post x)→cj E.base E.B w S (post' x)):EffOK E O G o post' t:=fun a w S hs ho hf hb=>
 j5 (fun _ _ ⟨v,S',x,h1,h2,h3,h4,h5⟩=>⟨v,S',x,h1,h2,h3,k h4,h5⟩) (h a w S hs ho hf hb)
end
end EffOK
variable{ats:Array TypeId}{mm:Bool}
section
variable{ty:TypeId}
theorem DQ{zs:List α}{y v:α}{i:Int}{p:Operand}(ti:TI E.P U sz bytes agg z)(hsz:r.sz=sz)(hy:fm xs i=some y)(hz:xs.set i.toNat v=zs)(hp:aH E.N G p (tV (aO b (i.toNat*r.sz))))(hv:aH E.N G x (tD r v)):EffOK E (bx (lF r n) T b xs::O) G ⟨none,.store U p x,ty,pos,after,g⟩ (fun _=>bx (lF r n) T b zs::O) (fun _=>wE):=yk (fun _ h=>(by cases h)) fun a w S hsat hown hf hbase=>by
 subst hz
 have h1:a.eval p=aO b (i.toNat*r.sz):=hp S a hf
 obtain⟨ds,h2,h3⟩:=hv S a hf
 obtain⟨⟨hno,cur,h5,h6⟩,_⟩:=hown.1
 obtain⟨h0,hy'⟩:=iI hy
 have hlt:i.toNat<xs.length:=(m8.1 hy').1
 have hl:=j4 h6.2
 simp only [CP]at hl
 have hmul:i.toNat*r.sz+r.sz≤xs.length*r.sz:=by rw [←Nat.succ_mul];exact vd _ hlt
 obtain⟨w',hr,e1,e2,e3,e4,e5,e6⟩:=gR ti hsz h3 h5 (off:=i.toNat*r.sz) (by omega)
 have hrun:(execOp a.eval ⟨none,.store U p x,ty,pos,after,g⟩).run E.P w= .ok .skip w' :=by
  simp [execOp,h1,h2,Instr.storeAt,aO,Instr.sureAddr,hr]
 obtain⟨g1,g2,g3⟩:=lO (O:=O) hsat (bx (lF r n) T b xs) (bx (lF r n) T b (xs.set i.toNat v)) hown (fun _=>Iff.rfl) (fun _=>Iff.rfl) ⟨e1,e2,e3,e4.1,e4.2⟩ e6 ⟨hno,_,e5,by rw [List.length_set];exact h6.1,Av h3 h6.2 hlt⟩ hno
 exact⟨w',S,kY,hrun,g1.more fun c hc=>⟨_,gV ..,hc⟩,g2,g3⟩

section
theorem sx{x:α}(ti:TI E.P T sz bytes agg z)(hx: ∀S,r.rc S z x):
  EffOK E O G ⟨some d,.alloc T,ty,pos,after,g⟩ (fun i=>bx r T (i.h 0).2 x::O) (fun i=>tV (aO (i.h 0).2 0)):=fun a w S hs ho hf hb=>by
 obtain⟨zv,hzr,hzc⟩:=ti.zero w
 obtain⟨he,hs',hno⟩:=dS (w:=w) (.cells z.toArray T (0,0)) hs
 have hrun:(execOp a.eval ⟨some d,.alloc T,ty,pos,after,g⟩).run E.P w= .ok (.value (aO w.heap.size 0)) (w.alloc (.cells z.toArray T (0,0))):=by
  simp [execOp,Instr.alloc,hzr,newVar,newRow,hzc,aO]
 refine⟨fun c h=>(by cases h),?_⟩
 rw [hrun]
 exact⟨_,S,oi none w.heap.size,rfl,he.more fun _ hb=>hb.elim,hs',kD ho he (e:=bx r T w.heap.size x) ⟨hno,z.toArray,wv w _,by simpa using hx S⟩ (fun b hb=>yC hb.symm) hb,rfl⟩
theorem zI{xs:List Operand}(hc:ah E.P f=true)(hs:d4 E.P f ts false r T ys)(hx:fX E.N G xs ts):
  EffOK E O G ⟨some d,.call ⟨.value (.func f),xs.toArray,ats⟩,ty,pos,after,g⟩ (fun i=>dJ r T (i.h 0).1 (i.h 0).2 ys::O) (fun i=>tV (aQ (i.h 0).1 (i.h 0).2 ys.length)):=FM (mm:=false) hc hs hx (fun _ _ _ _ _=>rfl)
end
section
theorem jq{l:Option Nat}{o i:Nat}{y:α}{j:Int}{p:Operand}(hf:bR E.P T i=some (off,sz))(h0:Nat.beq sz 0=false)(hm:iN mm r U l cap xs∈O)(hy:fm xs j=some y)(hp:aH E.N G p (tV (k4 l o)))(he:o+off=n):
  bB E O G ⟨dst,.fieldAddr T p i,ty,pos,after,g⟩ (tV (k4 l n)):=by
 subst he
 exact yV hf h0 hm hy hp
theorem cQ(hx:aH E.N G x (tV (aO b off))):bB E O G ⟨dst,.nilCheck x,ty,pos,after,g⟩ (tV (aO b off)):= .of_pure fun a w S _ _ hf=>by
 have h1:a.eval x=aO b off:=hx S a hf
 exact⟨aO b off,by simp [execOp,h1,aO],rfl⟩
theorem AA{y:α}(hx:aH E.N G x (bv r y)):bB E O G ⟨dst,.nilCheck x,ty,pos,after,g⟩ (bv r y):= .of_pure fun a w S _ _ hf=>by
 have h0:=hx S a hf
 obtain⟨b,off,c,U,fr,h1,h2,h3⟩:=h0
 exact⟨_,by simp [execOp,h1],b,off,c,U,fr,rfl,h2,h3⟩
theorem nW{p:Operand}(ti:TI E.P U 1 bytes false z)(hm:bx rV T b u∈O)(hp:aH E.N G p (tV (aO b 0))):
  bB E O G ⟨dst,.load U p,ty,pos,after,g⟩ (tV u):=(bL (q:=rV) (get:=fun x=>x) ti rfl rfl bG hm hp).imp fun _ _ h=>(p4.1 h).1
theorem hM{t:Ty}{p:Operand}(ti:TI E.P U 1 bytes false z)(hp:aH E.N G p (bv (rT t) ())):bB E O G ⟨dst,.load U p,ty,pos,after,g⟩ t:=mJ ti hp
end
theorem yu(h:O=O')(k:RG E ops Q rest O' G):RG E ops Q rest O G:=by subst h;exact k
theorem HP(h:O=O')(k:AT E Q e O' G):AT E Q e O G:=by subst h;exact k
theorem hW(h:aH N G x (tV u))(ho:u.oneCell' =true):aH N G x (tD rV u):=fun S a hf=>p4.2 ⟨h S a hf,ho⟩
theorem hTT{t:Ty}(h1: ∀S v,t.p S v→v.oneCell' =true)(h:aH N G x t):aH N G x (tD (rT t) ()):=fun S a hf=>PS.2 ⟨h1 _ _ (h S a hf),h S a hf⟩
end

theorem BE{l:Option Nat}{t' e' :TypeId}(ht:P.underlying t' =some (.slice e'))(h:vG mm r U l cap xs w S)(hs:dx xs lo (xs.length:Int)=some ys):
  ∃news,Src P r.sz t' (kd r.sz l cap lo.toNat ys.length) ys.length news w∧oS r S news ys:=by
 obtain⟨cells,h1,h2,_⟩:=h
 obtain⟨lo',m,rfl,hm,h3,h4,rfl⟩:=eL hs
 have hm' :m=xs.length:=by omega
 subst hm'
 rw [Bp,y7]
 cases l with
 |none=>
  have hx:xs=[]:=ve h1.1
  subst hx
  exact⟨[],by simpa [kd] using Src.ofNil w ht 0,by simp [oS]⟩
 |some b=>
  obtain⟨cur,g1,g2,g3,g4,g5⟩:=h1
  have hlen:(xs.drop lo').length=xs.length-lo' :=by simp
  have hcl:=j4 h2
  have hsp:xs=xs.take lo' ++xs.drop lo' :=(qX lo' xs).symm
  have htl:(xs.take lo').length=lo' :=by simp;omega
  have hr:oS r S (cells.drop (lo' *r.sz)) (xs.drop lo'):=by
   rw [hsp]at h2
   have:=(lN h2).2
   rwa [htl]at this
  have hmul:lo' *r.sz≤xs.length*r.sz:=vd _ h3
  refine⟨cells.drop (lo' *r.sz),?_,hr⟩
  unfold kd
  refine Src.ofSlice w ht _ _ _ _ (j4 hr) (fun j u hu=>?_) (wN hr)
  by_cases hc:cap=lo'
  ·have:xs.drop lo' =[]:=oI (by omega)
   rw [this]at hr
   have hr' :cells.drop (lo' *r.sz)=[]:=hr
   rw [hr']at hu;simp at hu
  ·simp only [hc,s3]
   rw [fH,uV g1]
   rw [wx,←g5]at hu
   have hj:lo' *r.sz+j<xs.length*r.sz:=by
    have:=(m8.1 hu).1
    simp at this;omega
   rw [xd hj]at hu
   simpa using hu
section
variable{ty:TypeId}
theorem zQ{l:Option Nat}{yt e:TypeId}(ht:E.P.underlying t=some (.slice e))(hm:iN mm r U l cap xs∈O)(hs:dx xs lo (xs.length:Int)=some ys)(hx:aH E.N G x (tV (kd r.sz l cap lo.toNat ys.length)))(hd:Nat.blt d E.N.n=true)(k: ∀b,(b=true→ys=[])→RG E ops Q rest O ((d,tD rB b)::G)):RG E ops Q (⟨some d,.binOp .eql t x (.const (.slice none 0 0)) yt,ty,pos,after,none⟩::rest) O G:= .of rfl fun a w S st=>by
 have h1:a.eval x=kd r.sz l cap lo.toNat ys.length:=hx S a st.facts
 obtain⟨⟨cells,hraw,_⟩,_⟩:=st.own.mem _ hm
 have hcn:a.eval (.const (.slice none 0 0))= .slice none 0 0:=rfl
 cases l with
 |none=>
  have hx0:xs=[]:=ve hraw.1
  have hy0:ys=[]:=by
   obtain⟨lo',m,_,_,_,_,rfl⟩:=eL hs
   subst hx0;simp
  have h3:(Op.equal t (.slice none 0 0) (.slice none 0 0)).run E.P w= .ok true w:=uh fun d=>by
   simp [Op.equalIn,gO ht]
  have hrun:(execOp a.eval ⟨some d,.binOp .eql t x (.const (.slice none 0 0)) yt,ty,pos,after,none⟩).run E.P w= .ok (.value (.bool true)) w:=by
   simp [execOp,h1,kd,hcn,eqGuard,binOp,h3]
  refine⟨fun c h=>(by cases h),?_⟩
  rw [hrun]
  exact k true (fun _=>hy0) _ _ S (st.step (d6.refl _ _ _) st.sat hd (eQ.2 rfl))
 |some b=>
  obtain⟨ad,hv⟩: ∃ad,kd r.sz (some b) cap lo.toNat ys.length= .slice (some ad) ys.length (cap-lo.toNat):=⟨_,rfl⟩
  have h3:(Op.equal t (.slice (some ad) ys.length (cap-lo.toNat)) (.slice none 0 0)).run E.P w= .ok false w:=uh fun d=>by
   simp [Op.equalIn,gO ht]
  have hrun:(execOp a.eval ⟨some d,.binOp .eql t x (.const (.slice none 0 0)) yt,ty,pos,after,none⟩).run E.P w= .ok (.value (.bool false)) w:=by
   simp [execOp,h1,hv,hcn,eqGuard,binOp,h3]
  refine⟨fun c h=>(by cases h),?_⟩
  rw [hrun]
  exact k false (fun e=>(by cases e)) _ _ S (st.step (d6.refl _ _ _) st.sat hd (eQ.2 rfl))
theorem yw{t' :TypeId}{l l2:Option Nat}{cap2:Nat}{zs us:List α}{y:Operand}(ti:TI E.P T sz bytes agg z)(hsz:r.sz=sz)(hz:Nat.beq z.length sz=true)(h0:Nat.blt 0 sz=true)(h128:Nat.ble bytes 2048=true)(ht:E.P.underlying t=some (.slice T))(ht' :t' =t)(hd:Nat.blt d E.N.n=true)(hx:aH E.N G x (tV (aQ l cap n)))(hm:iN mm r U l2 cap2 us∈dJ r T l cap xs::O)(hs:dx us lo (us.length:Int)=some ys)(hy:aH E.N G y (tV (kd r.sz l2 cap2 lo.toNat ys.length)))(happ:k5 xs ys=some zs)(k: ∀l' cap',RG E ops Q rest (dJ r T l' cap' zs::O) ((d,tV (aQ l' cap' zs.length))::G))(hn:n=xs.length:=by rfl):
  RG E ops Q (⟨some d,.call ⟨.builtin .append,#[x,y],#[t,t']⟩,ty,pos,after,none⟩::rest) (dJ r T l cap xs::O) G:=by
 subst ht'
 exact tQ (u:=fun cap' l' =>tV (aQ l' cap' zs.length)) ti hsz hz h0 h128 ht hd hx (fun a w S st=>by
  have h1:a.eval y=kd r.sz l2 cap2 lo.toNat ys.length:=hy S a st.facts
  rw [h1]
  exact BE ht (st.own.mem _ hm).1 hs) happ (fun _ _ _ _ _=>rfl) k hn
end

abbrev E5(α X:Type):=(σ:Type)→(α→σ→Option (Bool×σ))→σ→Option (σ×X)
def E6(P:Program){α X:Type}(args:α→List Ty)(it:E5 α X)(Ob:X→OI→List OE)(fid:FuncId)(cap:Array Value)(fp:Nat→Prop)(w:World)(S:SH):Prop:=
 ∀(σ:Type) (y:α→σ→Option (Bool×σ)) (s:σ) (R:σ×X),it σ y s=some R→ ∀I yv,MF P args y I yv→ ∀e,I s e→e.p w S→(∀k,e.fp k→ ¬fp k)→
  Calls P fid (#[yv]++cap) w fun en w' => ∃e' S' j,(∃v,en= .returned v)∧I R.1 e' ∧d6 (fun k=>e.fp k∨fp k) w S w' S' ∧ft w' S' ∧e'.p w' S' ∧cj 0 kV w' S' (Ob R.2 j)∧(∀k,e'.fp k∨tz (Ob R.2 j) k→(e.fp k∨fp k)∨w.heap.size≤k)∧ ∀k,e'.fp k→ ¬tz (Ob R.2 j) k
def AF(P:Program){α X:Type}(args:α→List Ty)(it:E5 α X)(Ob:X→OI→List OE)(v:Value)(fp:Nat→Prop):OE where
 fp:=fp
 p:=fun w S=>(∀k,fp k→k<w.heap.size)∧ ∃fid cap,v= .func (.func fid) #[] cap∧ah P fid=true∧
  ∀C w' S',d6 C w S w' S' →(∀k,fp k→ ¬C k)→ft w' S' →E6 P args it Ob fid cap fp w' S'
 here:=fun h k hk=>h.1 k hk
 kept:=by
  rintro C w w' S S' ⟨h1,fid,cap,h2,h3,h4⟩ k hC
  refine⟨fun b hb=>E8 (h1 b hb) k.size,fid,cap,h2,h3,fun C' w'' S'' k' hC' hs=>?_⟩;exact h4 (fun b=>C b∨C' b) w'' S'' ((k.more fun b hb=> .inl hb).trans (k'.more fun b hb=> .inr hb)) (fun b hb h=>h.elim (hC b hb) (hC' b hb)) hs
def M2:Unit→OI→List OE:=fun _ _=>[]
def itU{α:Type}(it:It α):E5 α Unit:=fun σ y s=>(it σ y s).map fun r=>(r,())
variable{args:α→List Ty}{s:eA}
theorem M3{it:It α}(h:(KD P args it v fp).p w S):(AF P args (itU it) M2 v fp).p w S:=by
 obtain⟨h1,fid,cap,h2,h3,h4⟩:=h
 refine⟨h1,fid,cap,h2,h3,fun C w' S' k hC hs σ y s R hit I yv hy e he hep hap=>?_⟩
 unfold itU at hit
 cases hq:it σ y s with
 |none=>rw [hq]at hit;cases hit
 |some s' =>
  rw [hq]at hit
  obtain rfl:(s',())=R:=by simpa using hit
  refine(h4 C w' S' k hC hs σ y s s' hq I yv hy e he hep hap).mono ?_
  rintro en w2 ⟨e',S2,g1,g2,g3,g4,g5,g6⟩
  exact⟨e',S2,kY,g1,g2,g3,g4,g5,trivial,fun k hk=>hk.elim (fun h=>(g6 k h).imp .inl id) (fun⟨_,h,_⟩=>by cases h),fun k _ ⟨_,h,_⟩=>by cases h⟩
section
variable{it:It α}
theorem MI(h:CG E Q c (AF P args (itU it) M2 v fp::O) G):CG E Q c (KD P args it v fp::O) G:=fun a w S st=>h a w S (st.own_map fun⟨⟨g1,g2⟩,g3,g4⟩=>⟨⟨M3 g1,g2⟩,g3,g4⟩)
end

def u3(P:Program)(fid:FuncId){α X:Type}(args:α→List Ty)(it:E5 α X)(Ob:X→OI→List OE)(O:List OE)(cts:List Ty):Prop:=
 ∀w S cap,ft w S→cj 0 kV w S O→q6 S cts cap→E6 P args it Ob fid cap.toArray (tz O) w S
def Hg(E:En){σ X:Type}(I:σ→OE→Prop)(R:σ×X)(Ob:X→OI→List OE):Ending→World→Prop:=fun en w' => ∃e' S' j,(∃v,en= .returned v)∧I R.1 e' ∧d6 E.B E.w0 E.S0 w' S' ∧ft w' S' ∧e'.p w' S' ∧cj 0 kV w' S' (Ob R.2 j)∧(∀k,e'.fp k∨tz (Ob R.2 j) k→E.B k∨E.w0.heap.size≤k)∧ ∀k,e'.fp k→ ¬tz (Ob R.2 j) k
variable{Ob:X→OI→List OE}
theorem u3.of{N:Nat}{it:E5 α X}{cts:List Ty}(hf:P.funcs[f]? =some fn)(hb:fn.body=some c)(hN:fn.ntmps=N)(hn:Nat.ble (cts.length+1) N=true)(h: ∀(σ:Type) (y:α→σ→Option (Bool×σ)) (s:σ) (R:σ×X),it σ y s=some R→ ∀I yv,MF P args y I yv→ ∀e,I s e→ ∀w0 S0 B,(∀k,B k→e.fp k∨ ∃f∈O,f.fp k)→
   CG ⟨P,⟨N,[]⟩,B,w0,S0,none⟩ (bodyPost P fn (Hg ⟨P,⟨N,[]⟩,B,w0,S0,none⟩ I R Ob)) c (e::O) (nZ 0 (tV yv::cts))):u3 P f args it Ob O cts:=by
 subst hN
 intro w S cap hs ho hc σ y s R hit I yv hy e he hep hap
 have hown:cj w.heap.size (fun k=>e.fp k∨ ∃f∈O,f.fp k) w S (e::O):=
  ⟨⟨hep,fun k hk=> .inr (.inl hk)⟩,fun f hf b hb hfb=>hap b hb ⟨f,hf,hfb⟩,gu ho fun f hf k hk=> .inr (.inr ⟨f,hf,hk⟩)⟩
 have hfacts:=i6 (S:=S) (ts:=tV yv::cts) (vs:=yv::cap) ⟨rfl,hc⟩ fn.ntmps (by simpa using ko hn)
 have:=fW.1 (xe (F:=fw none) (n:=0) hf hb trivial (h σ y s R hit I yv hy e he w S (fun k=>e.fp k∨ ∃f∈O,f.fp k) (fun _ h=>h) _ w S ⟨d6.refl _ _ _,hs,hown,hfacts⟩))
 rw [show(#[yv]++cap.toArray:Array Value)=(yv::cap).toArray from by simp]
 exact this.mono fun en w' ⟨e',S',j,h1,h2,h3,h4,h5,h6,h7,h8⟩=>⟨e',S',j,h1,h2,h3,h4,h5,h6,h7,h8⟩
theorem CI{N:Nat}{I:σ→OE→Prop}{R:σ×X}{e:OE}(hr:fn.results= #[])(he:I R.1 e)(j:OI)(hO:O=Ob R.2 j):
  AT ⟨P,⟨N,[]⟩,B,w0,S0,none⟩ (bodyPost P fn (Hg ⟨P,⟨N,[]⟩,B,w0,S0,none⟩ I R Ob)) .ret (e::O) G:=fun _ _ S st=>by
 subst hO
 refine⟨st.facts.defers,_,py P fn hr _ _,e,S,j,⟨_,rfl⟩,he,st.ext,st.sat,st.own.1.1,st.own.2.2.weak,fun k hk=>?_,fun k hk ⟨f,hf,hfk⟩=>st.own.2.1 f hf k hk hfk⟩
 rcases hk with hk|⟨f,hf,hk⟩
 ·exact(st.own.1.2 k hk).symm
 ·exact((cj.mem st.own.2.2 f hf).2 k hk).symm
theorem F3{N:Nat}{I:σ→OE→Prop}{R:σ×X}{e:OE}(hr:fn.results= #[])(he:I R.1 e)(j:OI)(hO:O=Ob R.2 j):
  AT ⟨P,⟨N,[]⟩,B,w0,S0,none⟩ (bodyPost P fn (Hg ⟨P,⟨N,[]⟩,B,w0,S0,none⟩ I R Ob)) .normal (e::O) G:=fun a w S st=>CI hr he j hO a w S st
def uX(P:Program)(f:FuncId)(ts:List Ty)(O1:List OE){α X:Type}(args:α→List Ty)(it:E5 α X)(Ob:X→OI→List OE):Prop:=
 ∀w S vs,ft w S→q6 S ts vs→cj 0 kV w S O1→Calls P f vs.toArray w fun e w' => ∃v fp S',e= .returned v∧d6 (tz O1) w S w' S' ∧ft w' S' ∧(AF P args it Ob v fp).p w' S' ∧ ∀k,fp k→tz O1 k∨w.heap.size≤k
def Hf(E:En)(O1:List OE){α X:Type}(args:α→List Ty)(it:E5 α X)(Ob:X→OI→List OE):Ending→World→Prop:=fun e w' => ∃v fp S',e= .returned v∧d6 E.B E.w0 E.S0 w' S' ∧ft w' S' ∧(AF E.P args it Ob v fp).p w' S' ∧ ∀k,fp k→tz O1 k∨E.w0.heap.size≤k
variable{O1:List OE}
theorem uX.of{N:Nat}{it:E5 α X}(hf:P.funcs[f]? =some fn)(hb:fn.body=some c)(hN:fn.ntmps=N)(hn:Nat.ble ts.length N=true)(h: ∀w0 S0,CG ⟨P,⟨N,[]⟩,tz O1,w0,S0,none⟩ (bodyPost P fn (Hf ⟨P,⟨N,[]⟩,tz O1,w0,S0,none⟩ O1 args it Ob)) c O1 (nZ 0 ts)):uX P f ts O1 args it Ob:=by
 subst hN
 intro w S vs hs hv ho
 exact fW.1 (xe (F:=fw none) (n:=0) hf hb trivial (h w S _ w S ⟨d6.refl _ _ _,hs,gu ho fun f hf k hk=> .inr ⟨f,hf,hk⟩,i6 hv _ (ko hn)⟩))
theorem F2{N:Nat}{it:E5 α X}(hr:fn.results= #[.tmp k])(hk:look G k=some (tV v)):
  AT ⟨P,⟨N,[]⟩,tz O1,w0,S0,none⟩ (bodyPost P fn (Hf ⟨P,⟨N,[]⟩,tz O1,w0,S0,none⟩ O1 args it Ob)) .ret (AF P args it Ob v fp::O) G:=fun a w S st=>by
 have hv:a.tmps.getD k undef=v:=st.facts.at_ k _ hk
 exact⟨st.facts.defers,_,jh P fn k hr _ _,v,fp,S,by rw [hv],st.ext,st.sat,st.own.1.1,fun k hk=>(st.own.1.2 k hk).symm⟩
section
variable{ty:TypeId}
theorem D2{xs:List Operand}(O1 Or:List OE){it:E5 α X}(hO:O=O1++Or)(hc:ah E.P f=true)(hs:uX E.P f ts O1 args it Ob)(hx:fX E.N G xs ts)(hd:Nat.blt d E.N.n=true)(k: ∀v fp,RG E ops Q rest (AF E.P args it Ob v fp::Or) ((d,tV v)::G)):
  RG E ops Q (⟨some d,.call ⟨.value (.func f),xs.toArray,ats⟩,ty,pos,after,none⟩::rest) O G:= .of rfl fun a w S st=>by
 subst hO
 have hr:(execOp a.eval ⟨some d,.call ⟨.value (.func f),xs.toArray,ats⟩,ty,pos,after,none⟩).run E.P w= .ok (.enter f (xs.map a.eval).toArray) w:=by
  simp [execOp,resolve,Act.eval,Deferred.ofValue,invoke,dq hc]
 refine⟨fun c h=>(by cases h),?_⟩
 rw [hr]
 refine(hs w S _ st.sat (hx.tys st.facts) (js st.own).1.weak).mono fun e w' ⟨v,fp,S',he,h1,h2,h3,h4⟩=>⟨_,he,?_⟩
 have st' :=st.turn (O2:=[AF E.P args it Ob v fp]) h1 h2 ⟨⟨h3,fun _ _=> .inl (gx _)⟩,fun _ h=>(by cases h),trivial⟩ (fun k ⟨f,hf,hk⟩=>by
  rw [List.mem_singleton.1 hf]at hk;exact h4 k hk)
 exact k v fp _ _ S' (st'.put hd rfl)
theorem Bf{fid:FuncId}{O2:List OE}{it:E5 α X}{cts:List Ty}{caps:List Operand}(hO:O=O1++O2)(hc:ah E.P fid=true)(hs:u3 E.P fid args it Ob O1 cts)(hcap:fX E.N G caps cts)(hd:Nat.blt d E.N.n=true)(k: ∀v fp,RG E ops Q rest (AF E.P args it Ob v fp::O2) ((d,tV v)::G)):
  RG E ops Q (⟨some d,.makeFunc (.func fid) #[] caps.toArray,ty,pos,after,none⟩::rest) O G:= .of rfl fun a w S st=>by
 subst hO
 have hr:(execOp a.eval ⟨some d,.makeFunc (.func fid) #[] caps.toArray,ty,pos,after,none⟩).run E.P w= .ok (.value (.func (.func fid) #[] (caps.map a.eval).toArray)) w:=by simp [execOp,Instr.makeFunc]
 refine⟨fun c h=>(by cases h),?_⟩
 rw [hr]
 obtain⟨h1,h2,h3⟩:=js st.own
 have hcv:=hcap.tys st.facts
 refine k (.func (.func fid) #[] (caps.map a.eval).toArray) (tz O1) _ _ S ⟨st.ext,st.sat,?_,st.facts.put hd rfl⟩;refine cj.cons ⟨⟨fun b ⟨f,hf,hb⟩=>f.here (cj.mem h1 f hf).1 b hb,fid,_,rfl,hc,fun C w' S' he hC hs' =>?_⟩,fun b ⟨f,hf,hb⟩=>(cj.mem h1 f hf).2 b hb⟩ (fun f hf b ⟨g,hg,hb⟩=>h3 g hg f hf b hb) h2;exact hs w' S' _ hs' (h1.weak.ext he fun f hf b hb=>hC b ⟨f,hf,hb⟩) (hcv.mono he.keep)
end

def mI(l:Nat)(r:Loop)(st:LoopState)(pd:Option Code):OE where
 fp:=fun k=>k=l
 p:=fun w S=>S l=none∧w.heap[l]? =some (.loop {r with state:=st,pending:=pd})
 here:=by
  intro w S h k hk
  subst hk
  exact(oK.1 h.2).1
 kept:=by
  intro C w w' S S' h k hC
  have hlt:=(oK.1 h.2).1
  exact⟨by rw [k.old l hlt (hC l rfl)];exact h.1,by rw [k.heap l hlt (hC l rfl)];exact h.2⟩
def Kx(j:Option Nat):LoopState:=if j.isNone then .ready else .done
def H4(E:En)(l:Nat)(rec:Loop){σ ι:Type}(Oi:ι→List OE)(dat:ι→σ)(jc:Nat→Code)(r:Option Nat×σ):Ending→World→Prop:=fun en w' =>
 ∃i S',en= .returned (.bool r.1.isNone)∧dat i=r.2∧d6 E.B E.w0 E.S0 w' S' ∧ft w' S' ∧cj E.base E.B w' S' (mI l rec (Kx r.1) (r.1.map jc)::Oi i)
def ym{α σ:Type}(f:α→σ→Option (Option Nat×σ)):α→Option Nat×σ→Option (Bool×(Option Nat×σ)):=fun x s=>
 match s.1 with
 |some _=>none
 |none=>(f x s.2).map fun r=>(r.1.isNone,r)
variable{rec:Loop}{ι:Type}
section
theorem uo{l:Nat}{st st' :LoopState}{pd pd' :Option Code}{O:List OE}(h:cj base B w S (mI l rec st pd::O))(hs:ft w S):
  d6 (fun k=>k=l) w S (w.putObj l (.loop {rec with state:=st',pending:=pd' })) S∧ft (w.putObj l (.loop {rec with state:=st',pending:=pd' })) S∧cj base B (w.putObj l (.loop {rec with state:=st',pending:=pd' })) S (mI l rec st' pd' ::O):=by
 obtain⟨hno,hl⟩:=h.1.1
 have hlt:=(oK.1 hl).1
 have hext:d6 (fun k=>k=l) w S (w.putObj l (.loop {rec with state:=st',pending:=pd' })) S:=⟨rfl,rfl,rfl,ia _,by simp,fun k _ hk=>World.putObj_heap_other hk,SH.le_refl _,fun _ _ _=>rfl⟩
 refine⟨hext,hs.same fun k o hk=>?_,⟨⟨hno,World.putObj_heap_same hlt⟩,h.1.2⟩,h.2.1,h.2.2.ext hext fun g hg k hk hkl=>h.2.1 g hg k hkl hk⟩
 have hne:k≠l:=fun e=>by subst e;rw [hno]at hk;cases hk
 exact World.putObj_heap_other hne
theorem z8{l:Nat}{body:Code}{R:Ending→World→Prop}(h:CG E (roundPost E.P l R) body (mI l rec .busy none::O) G):AT E (Ko E l body R) .normal (mI l rec .ready none::O) G:=fun a w S st=>by
 obtain⟨h1,h2,h3⟩:=uo (st' := .busy) (pd' :=none) st.own st.sat
 obtain⟨_,hl⟩:=st.own.1.1
 exact⟨_,run_beginRound hl rfl,h a _ S ⟨st.ext.step h1 (fun c hc=>st.own.1.2 c hc),h2,h3,st.facts⟩⟩
theorem qJ{l:Nat}{Oi:ι→List OE}{dat:ι→σ}{jc:Nat→Code}{s2:σ}(i:ι)(hi:dat i=s2)(hO:O=Oi i):AT E (roundPost E.P l (H4 E l rec Oi dat jc (none,s2))) .normal (mI l rec .busy none::O) G:=fun a w S st=>by
 subst hO
 obtain⟨h1,h2,h3⟩:=uo (st' := .ready) (pd' :=none) st.own st.sat
 obtain⟨_,hl⟩:=st.own.1.1
 exact⟨_,_,run_endRound none hl,i,S,rfl,hi,st.ext.step h1 (fun c hc=>st.own.1.2 c hc),h2,h3⟩
theorem u6{l:Nat}{Oi:ι→List OE}{dat:ι→σ}{jc:Nat→Code}{s2:σ}(q:Nat)(hq:jc q= .ret)(i:ι)(hi:dat i=s2)(hO:O=Oi i):AT E (roundPost E.P l (H4 E l rec Oi dat jc (some q,s2))) .ret (mI l rec .busy none::O) G:=fun a w S st=>by
 subst hO
 obtain⟨h1,h2,h3⟩:=uo (st' := .done) (pd' :=some .ret) st.own st.sat
 obtain⟨_,hl⟩:=st.own.1.1
 exact⟨_,_,run_endRound (some .ret) hl,i,S,rfl,hi,st.ext.step h1 (fun c hc=>st.own.1.2 c hc),h2,by rw [Option.map_some,hq];exact h3⟩
theorem zX{it:E5 α X}(Oi:ι→List OE)(dat:ι→σ)(jc:Nat→Code){f:α→σ→Option (Option Nat×σ)}{R:(Option Nat×σ)×X}{g:Operand}{ps:List Nat}{assign body:Code}(hr:E.r=none)(hg:aH E.N G g (tV v))(i0:ι)(hO:O=AF E.P args it Ob v fp::Oi i0)(hit:it (Option Nat×σ) (ym f) (none,dat i0)=some R)(hps: ∀x,ps.length=(args x).length)(hpn:(ps.all fun d=>Nat.blt d E.N.n)=true)(hbody: ∀(i:ι) (x:α) (r:Option Nat×σ),f x (dat i)=some r→ ∀(l:Nat) (rec:Loop) (w1:World) (S1:SH) (B1:Nat→Prop),
   CG ⟨E.P,⟨E.N.n,[]⟩,B1,w1,S1,some l⟩ (Ko ⟨E.P,⟨E.N.n,[]⟩,B1,w1,S1,some l⟩ l body (H4 ⟨E.P,⟨E.N.n,[]⟩,B1,w1,S1,some l⟩ l rec Oi dat jc r)) assign (mI l rec .ready none::Oi i) (zk ps (args x) G))(k: ∀i' j,dat i' =R.1.2→ ∀b,(R.1.1=none→AT ⟨E.P,⟨E.N.n,rE b::E.N.ds⟩,E.B,E.w0,E.S0,E.r⟩ Q .normal (uO b::(Ob R.2 j++Oi i')) G)∧
   (∀q,R.1.1=some q→CG ⟨E.P,⟨E.N.n,rE b::E.N.ds⟩,E.B,E.w0,E.S0,E.r⟩ Q (jc q) (uO b::(Ob R.2 j++Oi i')) G)):CG E Q (.rangeFunc g ps.toArray assign body) O G:=fun a w S st=>by
 subst hO
 refine wpIn_rangeFunc fun fn _=>?_
 have hr0:(fw E.r).round=none:=hr
 have hfw:fw E.r=fw none:=by rw [hr]
 rw [hr0]
 obtain⟨rec,hrec⟩: ∃rec:Loop,rec={state:= .ready,pending:=none,fn,tmps:=a.tmps,params:=ps.toArray,assign,body,defers:=w.heap.size}:=⟨_,rfl⟩
 obtain⟨x1,x2,x3⟩:=dS (w:=w) (.deferred (some [])) st.sat
 obtain⟨y1,y2,y3⟩:=dS (w:=w.alloc (.deferred (some []))) (.loop rec) x2
 obtain⟨W1,hW1⟩: ∃W1,(w.alloc (.deferred (some []))).alloc (.loop rec)=W1:=⟨_,rfl⟩
 rw [hW1]at y1 y2
 have hsz:(w.alloc (.deferred (some []))).heap.size=w.heap.size+1:=by simp
 rw [hsz]at y3
 have hext:d6 kV w S W1 S:=x1.trans y1
 have hL1:W1.heap[w.heap.size+1]? =some (.loop rec):=by
  rw [←hW1];have:=World.alloc_heap_new (w.alloc (.deferred (some []))) (.loop rec);rwa [hsz]at this
 have hK1:W1.heap[w.heap.size]? =some (.deferred (some [])):=by
  rw [y1.heap w.heap.size (by omega) (fun h=>h)];exact World.alloc_heap_new w _
 have hW1s:W1.heap.size=w.heap.size+2:=by rw [←hW1];simp
 have hg' :a.eval g=v:=hg S a st.facts
 obtain⟨hit1,hap,hoi⟩:=st.own
 obtain⟨⟨hfp,gf,cap,hv,hcal,hcall⟩,hbase⟩:=hit1
 have hbl:=st.base_le
 have hoi1:cj E.base E.B W1 S (Oi i0):=hoi.ext0 hext
 have hlt: ∀f∈Oi i0,∀k,f.fp k→k<w.heap.size:=fun f hf k hk=>f.here (cj.mem hoi f hf).1 k hk
 refine⟨w.heap.size+1,[rE w.heap.size],W1,{target:= .fn (.func gf) cap,args:= #[.func (.yield (w.heap.size+1)) #[] #[]]},W1,gf,
  #[.func (.yield (w.heap.size+1)) #[] #[]]++cap,W1,?_,?_,fun _ _=>trivial,?_,fun h=>(by cases h),?_⟩
 ·rw [←hW1,hrec];exact run_enterLoop_outer _ _ _ _ _
 ·simp only [resolve,hg',hv]
  simp [go_sem]
 ·simp [invoke,go_sem,dq hcal]
 rw [hfw]
 refine fW.2 ?_
 have hyld:MF E.P args (ym f) (fun s e=> ∃i,dat i=s.2∧e=lH S (mI (w.heap.size+1) rec (Kx s.1) (s.1.map jc)::Oi i)) (.func (.yield (w.heap.size+1)) #[] #[]):=by
  refine⟨_,rfl,?_⟩
  rintro x ⟨j0,s⟩ r hy e ⟨i,hi,rfl⟩ w2 S2 vs hs2 ⟨hle,hown⟩ hvs
  cases j0 with
  |some q=>unfold ym at hy;cases hy
  |none=>
  have hi' :dat i=s:=hi
  subst hi'
  obtain⟨r2,hs2',rfl⟩: ∃r2,f x (dat i)=some r2∧r=(r2.1.isNone,r2):=by
   unfold ym at hy
   cases hf:f x (dat i)with
   |none=>simp only [hf]at hy;cases hy
   |some s2=>simp only [hf]at hy;exact⟨s2,rfl,by simpa using hy.symm⟩
  have hl2:=hown.1.1.2
  have hvl:=hvs.length
  have hyr:=run_yield (P:=E.P) (args:=vs.toArray) hl2 (by rw [hrec];simp [hps x,hvl])
  refine⟨_,_,_,_,hyr,roundIn_of_wpIn trivial ?_⟩
  have hown' :cj 0 kV w2 S2 (mI (w.heap.size+1) rec .ready none::Oi i):=hown
  have:=hbody i x r2 hs2' (w.heap.size+1) rec w2 S2 (fun k=> ∃f∈mI (w.heap.size+1) rec .ready none::Oi i,f.fp k)
   {tmps:=(ps.zip vs).foldl (fun t (p:Nat×Value)=>t.setIfInBounds p.1 p.2) a.tmps,defers:=[]} w2 S2
   ⟨d6.refl _ _ _,hs2,gu hown' fun f hf k hk=> .inr ⟨f,hf,hk⟩,tF ps (args x) vs ⟨a.tmps,[]⟩ G (hps x) hvs hpn ⟨st.facts.size,rfl,fun j t h=>t.mono hle (st.facts.at_ j t h)⟩⟩
  rw [hrec]
  rw [hrec]at this
  rw [qO]
  refine wpIn_mono this ?_
  intro e a3 w3 hp
  cases e with
  |normal=>
   obtain⟨w4,hb4,hp4⟩:=hp
   refine⟨w4,hb4,wpIn_mono hp4 ?_⟩
   have hR: ∀en w',H4 ⟨E.P,⟨E.N.n,[]⟩,fun k=> ∃f∈mI (w.heap.size+1) rec .ready none::Oi i,f.fp k,w2,S2,some (w.heap.size+1)⟩ (w.heap.size+1) rec Oi dat jc r2 en w' →
     ∃e' S',en= .returned (.bool r2.1.isNone)∧(∃i',dat i' =r2.2∧e' =lH S (mI (w.heap.size+1) rec (Kx r2.1) (r2.1.map jc)::Oi i'))∧d6 (lH S (mI (w.heap.size+1) rec .ready none::Oi i)).fp w2 S2 w' S' ∧ft w' S' ∧e'.p w' S' ∧ ∀k,e'.fp k→(lH S (mI (w.heap.size+1) rec .ready none::Oi i)).fp k∨w2.heap.size≤k:=by
    rintro en w' ⟨i',S',h1,h2,h3,h4,h5⟩
    exact⟨_,S',h1,⟨i',h2,rfl⟩,h3,h4,⟨SH.le_trans hle h3.keep,h5.weak⟩,fun k ⟨f,hf,hk⟩=>((cj.mem h5 f hf).2 k hk).symm⟩
   rw [hrec]at hR
   intro e5 a5 w5 hp5
   cases e5<;>simp only [roundPost]at hp5 ⊢
   case normal=>obtain⟨v5,w6,h1,h2⟩:=hp5;exact⟨v5,w6,h1,hR _ _ h2⟩
   case ret=>obtain⟨v5,w6,h1,h2⟩:=hp5;exact⟨v5,w6,h1,hR _ _ h2⟩
   case exit=>obtain⟨v5,w6,h1,h2⟩:=hp5;exact⟨v5,w6,h1,hR _ _ h2⟩
   case goto=>obtain⟨v5,w6,h1,h2⟩:=hp5;exact⟨v5,w6,h1,hR _ _ h2⟩
  |_=>exact hp
 have hrecE:W1.heap[w.heap.size+1]? =some (.loop {rec with state:= .ready,pending:=none}):=by rw [hL1,hrec]
 have he0:(lH S (mI (w.heap.size+1) rec .ready none::Oi i0)).p W1 S:=⟨SH.le_refl _,⟨⟨y3,hrecE⟩,fun _ _=> .inl (gx _)⟩,fun f hf k hk hfk=>by have:=hlt f hf k hfk;have hk' :k=w.heap.size+1:=hk;omega,hoi1.weak⟩
 have hap0: ∀k,(lH S (mI (w.heap.size+1) rec .ready none::Oi i0)).fp k→ ¬fp k:=by
  rintro k ⟨f,hf,hk⟩ hfk
  rcases gc.1 hf with rfl|hf
  ·have:=hfp k hfk;have hk' :k=w.heap.size+1:=hk;omega
  ·exact hap f hf k hfk hk
 refine(hcall kV W1 S hext (fun _ _ h=>h) y2 _ (ym f) (none,dat i0) R hit _ _ hyld _ ⟨i0,rfl,rfl⟩ he0 hap0).mono ?_
 rintro en w2 ⟨e',S2,j,⟨vr,rfl⟩,⟨i',hi',rfl⟩,hx2,hs2,⟨hle2,hown2⟩,hob,hnew,hapo⟩
 have hl2:=hown2.1.1.2
 have hnb: ∀k,(uO w.heap.size).fp k→ ¬((lH S (mI (w.heap.size+1) rec .ready none::Oi i0)).fp k∨fp k):=by
  rintro k hk h
  have hk' :k=w.heap.size:=hk
  subst hk'
  rcases h with⟨f,hf,hfk⟩|h
  ·rcases gc.1 hf with rfl|hf
   ·have hk' :w.heap.size=w.heap.size+1:=hfk;omega
   ·have:=hlt f hf _ hfk;omega
  ·have:=hfp _ h;omega
 have hBin: ∀k,((lH S (mI (w.heap.size+1) rec .ready none::Oi i0)).fp k∨fp k)→E.w0.heap.size≤k∨E.B k:=by
  rintro k (⟨f,hf,hk⟩|h)
  ·rcases gc.1 hf with rfl|hf
   ·left;have hk' :k=w.heap.size+1:=hk;have:E.w0.heap.size≤w.heap.size:=hbl;omega
   ·exact(cj.mem hoi f hf).2 k hk
  ·exact hbase k h
 have hBn: ∀k,((lH S (mI (w.heap.size+1) rec (Kx R.1.1) (R.1.1.map jc)::Oi i')).fp k∨tz (Ob R.2 j) k)→E.base≤k∨E.B k:=fun k hk=>(hnew k hk).elim (hBin k) (fun h=> .inl (by have h1:E.base≤w.heap.size:=hbl;have h2:W1.heap.size≤k:=h;omega))
 have hb2:cj E.base E.B w2 S2 (mI (w.heap.size+1) rec (Kx R.1.1) (R.1.1.map jc)::(Ob R.2 j++Oi i')):=by
  obtain⟨q1,q2,q3⟩:=hown2
  refine cj.cons ⟨q1.1,fun k hk=>hBn k (.inl ⟨_,gV ..,hk⟩)⟩ (fun f hf=>?_) (uZ (gu hob fun f hf k hk=>hBn k (.inr ⟨f,hf,hk⟩)) (gu q3 fun f hf k hk=>hBn k (.inl ⟨f,mS _ hf,hk⟩)) fun e he f hf k hek hfk=>hapo k ⟨f,mS _ hf,hfk⟩ ⟨e,he,hek⟩)
  rcases y6.1 hf with hf|hf
  ·exact fun k hk hfk=>hapo k ⟨_,gV ..,hk⟩ ⟨f,hf,hfk⟩
  ·exact q2 f hf
 have hend:Kx R.1.1≠ .busy:=by unfold Kx;split<;>simp
 obtain⟨z1,z2,z3⟩:=uo (st' := .exhausted) (pd' :=R.1.1.map jc) hb2 hs2
 have hdf:(uO w.heap.size).p W1 S:=⟨x3,hK1⟩
 have Il:(uO w.heap.size).p w2 S2:=(uO w.heap.size).kept hdf hx2 hnb
 have hd3:=(uO w.heap.size).kept Il z1 (fun k hk hkl=>by have h1:k=w.heap.size:=hk;have h2:k=w.heap.size+1:=hkl;omega)
 have stE:St ⟨E.P,⟨E.N.n,rE w.heap.size::E.N.ds⟩,E.B,E.w0,E.S0,E.r⟩ (uO w.heap.size::(Ob R.2 j++Oi i')) G {a with defers:=[rE w.heap.size]++a.defers} (w2.putObj (w.heap.size+1) (.loop {rec with state:= .exhausted,pending:=R.1.1.map jc})) S2:=by
  refine⟨((st.ext.step0 hext).step hx2 hBin).step z1 (fun c hc=>z3.1.2 c hc),z2,?_,?_⟩
  ·refine cj.cons ⟨hd3,fun k hk=> .inl (by have h1:k=w.heap.size:=hk;rw [h1];exact hbl)⟩ (fun f hf k hk hfk=>?_) z3.2.2
   have h1:k=w.heap.size:=hk
   have h2:((lH S (mI (w.heap.size+1) rec (Kx R.1.1) (R.1.1.map jc)::Oi i')).fp k∨tz (Ob R.2 j) k):=by
    rcases y6.1 hf with hf|hf
    ·exact .inr ⟨f,hf,hfk⟩
    ·exact .inl ⟨f,mS _ hf,hfk⟩
   rcases hnew k h2 with h|h
   ·exact hnb k hk h
   ·omega
  ·refine⟨st.facts.size,?_,fun j t hj=>t.mono (SH.le_trans (SH.le_refl S) hle2) (st.facts.at_ j t hj)⟩
   show rE w.heap.size::a.defers=_
   rw [st.facts.defers]
 obtain⟨k1,k2⟩:=k i' j hi' w.heap.size
 refine⟨_,_,run_endLoop hl2 hend,?_⟩
 cases hR1:R.1.1 with
 |none=>
  rw [hR1]at stE
  exact k1 hR1 _ _ S2 stE
 |some q=>
  rw [hR1]at stE
  have:=k2 q hR1 _ _ S2 stE
  show(jc q).wpIn (fw none) 0 E.P Q _ _
  have hE:fw (⟨E.P,⟨E.N.n,rE w.heap.size::E.N.ds⟩,E.B,E.w0,E.S0,E.r⟩:En).r=fw none:=hfw
  rw [hE]at this
  exact this
end

def KB(l:List (Option Nat×Nat)):OI:={h:=fun n=>l.getD n (none,0)}
def cV(P:Program){A X ρ:Type}(args:A→List Ty)(Ob:X→OI→List OE)(res:ρ→Ty)(f:X→A→Option (ρ×X)):Ty where
 p:=fun S v=> ∀x y R,f x y=some R→ ∃fid fst cap,v= .func (.func fid) fst cap∧ah P fid=true∧ ∀i w S' vs,lz S S' →ft w S' →q6 S' (args y) vs→cj 0 kV w S' (Ob x i)→
  Calls P fid (fst++vs.toArray++cap) w fun en w' => ∃j v S'',en= .returned v∧(res R.1).p S'' v∧d6 (tz (Ob x i)) w S' w' S'' ∧ft w' S'' ∧cj 0 kV w' S'' (Ob R.2 j)∧ ∀k,tz (Ob R.2 j) k→tz (Ob x i) k∨w.heap.size≤k
 mono:=fun h k x y R hf=>by
  obtain⟨fid,fst,cap,e,hc,hs⟩:=k x y R hf
  exact⟨fid,fst,cap,e,hc,fun i w S' vs hle=>hs i w S' vs (SH.le_trans h hle)⟩
variable{A ρ:Type}{res:ρ→Ty}
theorem zb{args:A→List Ty}:(cV P args Ob res (fun _ _=>none)).p S v:=fun _ _ _ h=>by cases h
section
section
variable{ty:TypeId}
theorem f8{args:A→List Ty}{f:X→A→Option (ρ×X)}{fid:FuncId}{p:Operand}(hc:ah E.P fid=true)(hp:aH E.N G p (tV (aO b 0)))(hs: ∀x y R,f x y=some R→ ∀i,cy E.P fid (tV (aO b 0)::args y) (Ob x i) (fun _:OI=>res R.1) (fun j=>Ob R.2 j)):
  bB E O G ⟨dst,.makeFunc (.func fid) #[p] #[],ty,pos,after,g⟩ (cV E.P args Ob res f):= .of_pure fun a w S _ _ hf=>by
 have h1:a.eval p=aO b 0:=hp S a hf
 refine⟨.func (.func fid) #[aO b 0] #[],by simp [execOp,Instr.makeFunc,h1],fun x y R hR=>⟨fid,#[aO b 0],#[],rfl,hc,fun i w' S' vs _ hsat hv ho=>?_⟩⟩
 have:=hs x y R hR i w' S' (aO b 0::vs) hsat ⟨rfl,hv⟩ ho
 rw [show(#[aO b 0]++vs.toArray++ #[]:Array Value)=(aO b 0::vs).toArray from by simp]
 exact this
end
theorem uN{args:A→List Ty}{f:X→A→Option (ρ×X)}{x:X}{y:A}{R:ρ×X}{i:OI}{ty:TypeId}{fo:Operand}{xs:List Operand}(Or:List OE)(hO:O=Ob x i++Or)(hf:aH E.N G fo (cV E.P args Ob res f))(hR:f x y=some R)(hx:fX E.N G xs (args y))(hpost: ∀j,Ob R.2 j++Or=post j):
  EffOK E O G ⟨some d,.call ⟨.value fo,xs.toArray,ats⟩,ty,pos,after,g⟩ post (fun _=>res R.1):=fun a w S hsat ho hF hb=>by
 subst hO
 obtain rfl:(fun j=>Ob R.2 j++Or)=post:=funext hpost
 obtain⟨fid,fst,cap,e,hc,hs⟩:=hf S a hF x y R hR
 have hr:(execOp a.eval ⟨some d,.call ⟨.value fo,xs.toArray,ats⟩,ty,pos,after,g⟩).run E.P w= .ok (.enter fid (fst++(xs.map a.eval).toArray++cap)) w:=by
  simp [execOp,resolve,e,Deferred.ofValue,invoke,dq hc]
 refine⟨fun c h=>(by cases h),?_⟩
 rw [hr]
 exact(hs i w S _ (SH.le_refl _) hsat (hx.tys hF) (js ho).1.weak).mono fun en w' ⟨j,v,S',he,hv,h1,h2,h3,h4⟩=>⟨_,he,v,S',j,rfl,h1.more fun b ⟨f,hf,hb⟩=>⟨f,Fb _ hf,hb⟩,h2,cj.turn ho hb h1 h3 h4,hv⟩
theorem fi{t:Ty}{Ob:OI→List OE}{i:OI}(h:cy P f ts O1 (fun _:OI=>t) (fun _=>Ob i)):cy P f ts O1 (fun _:OI=>t) Ob:=fun w S vs hs hv ho=>
 (h w S vs hs hv ho).mono fun _ _ ⟨_,v,S',h1,h2,h3,h4,h5,h6⟩=>⟨i,v,S',h1,h2,h3,h4,h5,h6⟩
section
variable{N:Nat}{t:ι→Ty}{O2:ι→List OE}
theorem df{rvs:List ResultVar}(hr:fn.results=rvs.toArray)(h1:Nat.beq rvs.length 1=false)(h:FU P ⟨N,[]⟩ G rvs ts)(i:ι)(hO:O=O2 i)(ht:t i=tT ts):
  AT ⟨P,⟨N,[]⟩,tz O1,w0,S0,none⟩ (bodyPost P fn (He ⟨P,⟨N,[]⟩,tz O1,w0,S0,none⟩ O1 t O2)) .ret O G:=fun a w S st=>by
 obtain⟨vs,k1,k2,k3⟩:=h.run st.sat st.facts
 have hne: ¬vs.length=1:=by rw [k3];intro e;rw [e]at h1;cases h1
 refine⟨st.facts.defers,.tuple vs.toArray,?_,EN st rfl i hO (by rw [ht];exact⟨vs,rfl,k2⟩)⟩
 have e1:(fn.results.mapM (tu a.tmps)).run P w= .ok vs.toArray w:=by
  rw [hr,List.mapM_toArray,Sem.run_map,k1]
  rfl
 have e3:results fn a.tmps=((fn.results.mapM (tu a.tmps))>>=fun vs=>pure (if h:vs.size=1 then vs[0]else .tuple vs)):=rfl
 rw [e3,nF,e1]
 simp [Result.andThen,hne]
end
def Qa(u:Value)(t:Ty):Ty where
 p:=fun S v=>v=u∧t.p S u
 mono:=fun h ⟨e,k⟩=>⟨e,t.mono h k⟩
theorem St.settleP{x:α}(h:St E (bx r T b x::O) G a w S)(hk:look G k=some (tV (aO b 0))): ∃S',St E O ((k,Qa (aO b 0) (bv r x))::G) a w S' :=by
 obtain⟨S',h1⟩:=h.settleB hk
 have hv:a.tmps.getD k undef=aO b 0:=h.facts.at_ k _ hk
 refine⟨S',⟨h1.ext,h1.sat,h1.own,⟨h1.facts.size,h1.facts.defers,fun j t hj=>?_⟩⟩⟩
 have hp:(bv r x).p S' (a.tmps.getD k undef):=h1.facts.at_ k _ (by simp [look])
 by_cases hb:Nat.beq k j=true
 ·have e:=kp hb
  subst e
  simp only [look,Nat.beq_refl,cond_true,Bs]at hj
  subst hj
  exact⟨hv,by rw [←hv];exact hp⟩
 ·rw [tX]at hb
  have:look ((k,bv r x)::G) j=some t:=by
   simp only [look,hb,cond_false]at hj ⊢;exact hj
  exact h1.facts.at_ j t this
theorem tW{x:α}(k:Nat)(hk:look G k=some (tV (aO b 0)))(h:AT E Q e O ((k,Qa (aO b 0) (bv r x))::G)):AT E Q e (bx r T b x::O) G:=
 fun a w _ st=>let⟨S',st'⟩:=st.settleP hk;h a w S' st'
theorem Kn{hs:HL}{x:α}(h:cj base B w S (bx (rH r hs) T b x::O)):cj base B w S (bx r T b x::O):=by
 obtain⟨⟨⟨h1,c,h2,h3⟩,h4⟩,h5,h6⟩:=h
 exact⟨⟨⟨h1,c,h2,h3.1⟩,h4⟩,h5,h6⟩
theorem vP{hs:HL}{x:α}(h:AT E Q e (bx r T b x::O) G):AT E Q e (bx (rH r hs) T b x::O) G:=fun a w S st=>h a w S (st.own_map Kn)
theorem vm{G:iO}{j:Nat}{t:Ty}(ti:TI P T 1 bytes false z)(hk:look G k=some (bv rV u))(hj:look G j=some (Qa u t)):E0 P N G (.cell k T) t:=fun a w S hs hf=>by
 obtain⟨v,h1,h2⟩:=bq (r:=rV) ti rfl rfl hk a w S hs hf
 have h3:=(p4.1 h2).1
 subst h3
 obtain⟨_,h4⟩:=hf.at_ j _ hj
 exact⟨v,h1,h4⟩
end
section
variable [DecidableEq κ]{k:κ}{i v:Operand}{dst:Option Nat}{ty:TypeId}
theorem dE(hm:E.P.underlying t=some (.map kt et))(hk:zW E.P kt kv)(hx:aH E.N G x (tV (lS b)))(hi:Cy E.N G i (kv k))(hv:aH E.N G v (γ y))(h: ∀os',RG E ops Q rest (jF (q0 γ) kv b none os' (ee m k y)::O) G):
  RG E ops Q (⟨none,.insert t x i v,ty,pos,after,none⟩::rest) (jF (q0 γ) kv b none os m::O) G:= .of rfl fun a w S st=>by
 have h1:a.eval x=lS b:=hx S a st.facts
 have h2:a.eval i=kv k:=hi S a st.facts
 have h3:(γ y).p S (a.eval v):=hv S a st.facts
 obtain⟨⟨hp,hfp⟩,hap,hO⟩:=st.own
 obtain⟨hno,hnb,es,clock,e3,e4,hst⟩:=hp
 obtain⟨q,hq,hdk,hinj⟩:=hk
 obtain⟨os1,p1,p2,_⟩:=ol hdk hinj (k:=k) 0 e4
 have hnb1: ∀o∈os1,o.1≠some b:=fun o ho=>by
  rcases p1 o ho with h|h
  ·exact hnb o h
  ·rw [h];exact fun e=>by cases e
 obtain⟨w',os',r,x1,x2,x3,x4⟩:=FA (V:=q0 γ) (E:=E) (y:=y) (o:=(none,0)) (val:=a.eval v) st.sat hm ⟨q,hq,hdk,hinj⟩ ⟨hno,hnb1,es,clock,e3,p2,hst⟩ ⟨rfl,h3⟩ (fun e=>by cases e) (fun _ _ _ e=>by cases e)
 have hrun:(execOp a.eval ⟨none,.insert t x i v,ty,pos,after,none⟩).run E.P w= .ok .skip w' :=by simp [execOp,h1,h2,r]
 refine⟨fun c h=>(by cases h),?_⟩
 rw [hrun]
 have hfp' : ∀j,(jF (q0 γ) kv b none os' (ee m k y)).fp j→(jF (q0 γ) kv b none os m).fp j:=fun j hj=>by
  rcases x4 j hj with(h|⟨o,ho,e⟩)|e
  ·exact .inl h
  ·rcases p1 o ho with h|h
   ·exact .inr ⟨o,h,e⟩
   ·rw [h]at e;cases e
  ·cases e
 exact h os' _ _ S ⟨st.ext.step x1 (fun c hc=>hfp c (.inl hc)),x2,⟨⟨x3,fun j hj=>hfp j (hfp' j hj)⟩,fun f hf j hj=>hap f hf j (hfp' j hj),hO.ext x1 fun f hf j hj hjb=>hap f hf j (.inl hjb) hj⟩,st.facts⟩
end
def Qe(b:Bool):Option Unit:=if b then some ()else none
theorem GD{b:Bool}{u:Unit}(h:Qe b=some u):b=true:=by
 unfold Qe at h
 split at h
 ·assumption
 ·cases h

def zF{κ β:Type}(γ:β→Ty)(kv:κ→Value)(S:SH):List MapEntry→List (κ×β)→Prop
 |[],[]=>True
 |e::es,q::m=>e.key=kv q.1∧(γ q.2).p S e.val∧(∀p∈m,p.1≠q.1)∧zF γ kv S es m
 |_,_=>False
theorem tI{κ β:Type}{γ:β→Ty}{kv:κ→Value}{S S' :SH}(h:lz S S'): ∀{es:List MapEntry} {m:List (κ×β)},zF γ kv S es m→zF γ kv S' es m
 |[],[],_=>trivial
 |_::_,q::_,⟨h1,h2,h3,h4⟩=>⟨h1,(γ q.2).mono h h2,h3,tI h h4⟩
theorem Hd{κ β:Type} [DecidableEq κ]{γ:β→Ty}{kv:κ→Value}{w:World}{S:SH}: ∀{es:List MapEntry} {os:List (Option Nat×Nat)} {m:List (κ×β)},q4 (q0 γ) kv w S none es os m→zF γ kv S es m
 |[],[],[],_=>trivial
 |_::_,_::_,_::_,⟨h1,h2,_,h4,h5⟩=>⟨h1,by rw [cZ (by simp)]at h2;exact h2.2,h4,Hd h5⟩
theorem HM{κ β:Type} [DecidableEq κ]{γ:β→Ty}{kv:κ→Value}{w:World}{S:SH}: ∀{es:List MapEntry} {m:List (κ×β)},zF γ kv S es m→q4 (q0 γ) kv w S none es (m.map fun _=>(none,0)) m
 |[],[],_=>trivial
 |_::_,_::_,⟨h1,h2,h3,h4⟩=>⟨h1,by rw [cZ (by simp)];exact⟨rfl,h2⟩,fun _ _ _ h=>(by cases h),h3,HM h4⟩
def Ed{κ β:Type}(γ:β→Ty)(kv:κ→Value)(m:List (κ×β)):Ty where
 p:=fun S v=> ∃b es clock,v=lS b∧S b=some (.map es clock)∧zF γ kv S es.toList m
 mono:=fun h ⟨b,es,cl,e,h1,h2⟩=>by
  obtain⟨o',h3,h4⟩:=h b _ h1
  have h5:o' = .map es cl:=h4
  subst h5
  exact⟨b,es,cl,e,h3,tI h h2⟩
theorem H7: ∀S v,(Ed γ kv m).p S v→v.oneCell' =true:=fun _ _ ⟨_,_,_,e,_⟩=>by rw [e];rfl
section
variable [DecidableEq κ]{k:κ}{i:Operand}{dst:Option Nat}{ty:TypeId}
theorem BZ{z:β}(hm:E.P.underlying t=some (.map kt et))(hk:zW E.P kt kv)(hz:ZV E.P et zv)(hzt: ∀S,(γ z).p S zv)(hx:aH E.N G x (Ed γ kv m))(hi:Cy E.N G i (kv k)):
  bB E O G ⟨dst,.lookup t x i false,ty,pos,after,g⟩ (γ ((pi m k).getD z)):= .of_pure fun a w S hs ho hf=>by
 obtain⟨b,es,clock,h1,h3,h4⟩:=hx S a hf
 obtain⟨o',h5,h6⟩:=hs b _ h3
 have h7:o' = .map es clock:=h6
 subst h7
 obtain⟨q,hq,hd,hinj⟩:=hk
 have h2:a.eval i=kv k:=hi S a hf
 obtain⟨_,_,_,h8⟩:=ol hd hinj (k:=k) 0 (HM (w:=w) h4)
 rcases h8 with⟨g1,g2⟩|⟨y,o,e,j,g1,g2,g3,g4,g5⟩
 ·refine⟨zv,by simp [execOp,h1,h2,jm hm hq (hd k) h5 hz g2],by rw [g1];exact hzt S⟩
 ·refine⟨e.val,by simp [execOp,h1,h2,jm hm hq (hd k) h5 hz g4],by rw [g1];exact g3.2⟩
theorem St.settleMp{j:Nat}(h:St E (jF (q0 γ) kv b none os m::O) G a w S)(hk:look G j=some (tV (lS b))): ∃S',St E O ((j,Ed γ kv m)::G) a w S' :=by
 obtain⟨⟨hn,_,es,clock,h3,h4,_⟩,_⟩:=h.own.1
 obtain⟨h8,hle,_,_⟩:=tm h (.inl rfl) h3 (pH _) hn
 have hv:a.tmps.getD j undef=lS b:=h.facts.at_ j _ hk
 exact⟨_,h8.cons ⟨b,es,clock,hv,by simp [SH.set],tI hle (Hd h4)⟩⟩
theorem CF(j:Nat)(hk:look G j=some (tV (lS b)))(h:AT E Q e O ((j,Ed γ kv m)::G)):AT E Q e (jF (q0 γ) kv b none os m::O) G:=
 fun a w _ st=>let⟨S',st'⟩:=st.settleMp hk;h a w S' st'
end
def sL(P:Program){α β:Type}(args:α→List Ty)(res:β→Ty)(f:α→Option β):Ty where
 p:=fun S v=> ∀x y,f x=some y→ ∃fid cap,v= .func (.func fid) #[] cap∧ah P fid=true∧ ∀w S' vs,lz S S' →ft w S' →q6 S' (args x) vs→
  Calls P fid (vs.toArray++cap) w fun e w' => ∃v S'',e= .returned v∧d6 kV w S' w' S'' ∧ft w' S'' ∧(res y).p S'' v
 mono:=fun h k x y hxy=>by
  obtain⟨f,cap,e,hc,k⟩:=k x y hxy
  exact⟨f,cap,e,hc,fun w S' vs hle=>k w S' vs (SH.le_trans h hle)⟩
theorem ke{res:β→Ty}{f:α→Option β}(h:aH N G x (cB P args res f)):aH N G x (sL P args res f):=fun S a hf u y hxy=>by
 obtain⟨fid,cap,e,hc,k⟩:=h S a hf
 exact⟨fid,cap,e,hc,fun w S' vs=>k u y hxy w S' vs⟩
theorem H2{res:β→Ty}:(sL P args res (fun _:α=>(none:Option β))).p S v:=fun _ _ h=>by cases h
theorem Fy{ty:TypeId}{res:β→Ty}{f:α→Option β}{fo:Operand}{x:α}{xs:List Operand}(hfo:aH E.N G fo (sL E.P args res f))(h:f x=some y)(hx:fX E.N G xs (args x)):
  bB E O G ⟨dst,.call ⟨.value fo,xs.toArray,ats⟩,ty,pos,after,g⟩ (res y):=fun a w S hS _ hF=>by
 obtain⟨fid,cap,e,hc,hs⟩:=hfo S a hF x y h
 have hr:(execOp a.eval ⟨dst,.call ⟨.value fo,xs.toArray,ats⟩,ty,pos,after,g⟩).run E.P w= .ok (.enter fid ((xs.map a.eval).toArray++cap)) w:=by
  simp [execOp,resolve,e,Deferred.ofValue,invoke,dq hc]
 refine⟨fun c h=>(by cases h),?_⟩
 rw [hr]
 exact(hs w S _ (SH.le_refl _) hS (hx.tys hF)).mono fun e w' ⟨v,S',he,h1,h2,h3⟩=>⟨v,he,v,S',rfl,h1,h2,h3⟩

def GS:Nat:=1000000
def Qb{α:Type}(r:Rp α)(x:α)(g:Nat):Ty where
 p:=fun S _=>(bv r x).p S (aO g 0)
 mono:=fun h k=>(bv r x).mono h k
theorem LS{x:α}{g:Nat}{vs:List Value}(hs:ft w S)(hg:(g,vs)∈glob)(hr: ∀S,r.rc S vs x):(bv r x).p S (aO g 0):=by
 obtain⟨c,T,fr,h1,h2⟩:=hs.gl _ hg
 refine⟨g,0,c,T,fr,rfl,h1,?_⟩
 rw [nG,←r.len (hr S)]
 have h3:c.toList.take vs.length=vs:=h2
 rw [h3]
 exact hr S
section
variable{ty:TypeId}
theorem GP{t:Ty}(hf:cX N S a G)(h: ∀v,t.p S v):cX N S a ((GS,t)::G):=⟨hf.size,hf.defers,fun j u hj=>by
 unfold look at hj
 cases hb:Nat.beq GS j with
 |true=>
  rw [hb]at hj
  simp only [cond_true,Bs]at hj
  rw [←hj];exact h _
 |false=>
  rw [hb]at hj
  simp only [cond_false]at hj
  exact hf.at_ j u hj⟩
theorem vO{x:α}{v:Nat}{vs:List Value}{t:Ty}(hg:(v,vs)∈glob)(hr: ∀S,r.rc S vs x)(h:bB E O ((GS,Qb r x v)::G) o t):bB E O G o t:=fun a w S hs ho hf=>
 h a w S hs ho (GP hf fun _=>LS hs hg hr)
theorem GK{x:α}{v:Nat}:aH N ((GS,Qb r x v)::G) (.global v) (bv r x):=fun S a hf=>hf.at_ GS (Qb r x v) (by simp [look])
def uz(s:eA)(i:Int):Option Int:=(fm s i).map fun b=>(b.toNat:Int)
theorem nA{ix:Operand}{k:IntKind}{i y:Int}(ht:E.P.underlying t=some .string)(hx:aH E.N G x (tD rS s))(hi:aH E.N G ix (tD (rI k) i))(hy:uz s i=some y):
  bB E O G ⟨dst,.index t x ix,ty,pos,after,g⟩ (tD (rI .u8) y):= .of_pure fun a w S _ _ hf=>by
 have h1:a.eval x= .string ⟨s.toArray⟩:=nR.1 (hx S a hf)
 have h2:a.eval ix= .int k i:=cq.1 (hi S a hf)
 unfold uz at hy
 cases hb:fm s i with
 |none=>rw [hb]at hy;cases hy
 |some b=>
  rw [hb]at hy
  obtain⟨g1,g2⟩:=iI hb
  have hlt:i.toNat<s.length:=(m8.1 g2).1
  have e:y=(b.toNat:Int):=by simpa using hy.symm
  have hsz:(ByteArray.mk s.toArray).size=s.length:=by simp [ByteArray.size]
  refine⟨.int .u8 y,?_,cq.2 rfl⟩
  have h3:=run_index_string (P:=E.P) w t ⟨s.toArray⟩ k i ht
  rw [dif_pos (by rw [hsz];omega)]at h3
  have h4:(ByteArray.mk s.toArray)[i.toNat]'(by rw [hsz];exact hlt)=b:=by
   have:=(m8.1 g2).2
   show s.toArray[i.toNat]=b
   simpa using this
  simp only [execOp,h1,h2,nF,h3,pb,Sem.run_pure]
  rw [h4,e]
def Kl(a b:eA):Int:=Lib.compareBytes a b
theorem Id{u:eA}{y:Operand}(hf:E.P.funcs[f]? =some fn)(hname:(fn.name== "runtime.NumGoroutine")=false)(hb:fn.body.isNone=true)(hn:Extern.findNext fn=none)(he:Extern.find fn=some Extern.BytealgCompare.compare)(hx:aH E.N G x (tD rS s))(hy:aH E.N G y (tD rS u)):
  bB E O G ⟨dst,.call ⟨.value (.func f),#[x,y],ats⟩,ty,pos,after,g⟩ (tD (rI .i64) (Kl s u)):= .of_pure fun a w S _ _ hF=>by
 have h1:a.eval x= .string ⟨s.toArray⟩:=nR.1 (hx S a hF)
 have h2:a.eval y= .string ⟨u.toArray⟩:=nR.1 (hy S a hF)
 refine⟨.int .i64 (Kl s u),?_,cq.2 rfl⟩
 have h3:=run_callFunc_extern hf hname hb hn he #[.string ⟨s.toArray⟩,.string ⟨u.toArray⟩] w
 rw [Lib.run_compareString]at h3
 have h0:a.eval (.func f)= .func (.func f) #[] #[]:=rfl
 simp [execOp,resolve,h0,Deferred.ofValue,invoke,h1,h2,h3,Kl,Result.andThen]
end
open Go.MapKept (Stamped)
section
variable [DecidableEq κ]
def tNx(b:Bool):Ty where
 p:=fun _ v=> ∃vs:List Value,v= .tuple (.mk (.bool b::vs))
 mono:=fun _ h=>h
end
section
variable [DecidableEq κ]{r:Nat}{left:List κ}{cur:Option κ}{k:κ}{i v:Operand}{dst:Option Nat}{ty:TypeId}
theorem AD{f:Bool}(hx:aH E.N G x (tNx f)):bB E O G ⟨dst,.extract x 0,ty,pos,after,g⟩ (tD rB f):=
 .of_pure fun a w S _ _ hf=>by
  obtain⟨vs,h1⟩:=hx S a hf
  exact⟨.bool f,by simp [execOp,h1,Instr.extract],eQ.2 rfl⟩
end
open Go.RowKit

theorem FI(hs:ft w S)(h:Below w.heap.size w w')(hd:w.drawn≤w'.drawn):d6 kV w S w' S∧ft w' S:=
 ⟨⟨h.os,h.tape,h.output,hd,h.size,fun k hk _=>h.block k hk,SH.le_refl _,fun _ _ _=>rfl⟩,hs.same fun b o hb=>h.block b (hs.lt hb)⟩
theorem Cr{t:eA}(h: ∀w:World,Fm w→Calls P f #[.string ⟨s.toArray⟩] w fun e w' =>e= .returned (.string ⟨t.toArray⟩)∧Below w.heap.size w w'):aN P f [tD rS s] (tD rS t):=fun w S vs hs hv=>by
 match vs,hv with
 |[v],⟨h1,_⟩=>
  obtain rfl:=nR.1 h1
  refine(Cn (h w hs.tab) (fun w' hr=>by cases hr.1)).mono fun e w' ⟨⟨he,hb⟩,hd⟩=>?_
  obtain⟨k1,k2⟩:=FI hs hb hd
  exact⟨_,S,he,k1,k2,nR.2 rfl⟩

def na(xs:List Int):eA:=xs.map fun n=>UInt8.ofNat n.toNat
theorem ya: ∀(xs:List Int) (r:ByteArray),xs.foldl (fun r n=>r.push (UInt8.ofNat n.toNat)) r=⟨r.data++(na xs).toArray⟩
 |[],r=>by simp [na]
 |x::xs,r=>by
  rw [List.foldl_cons,ya xs]
  simp [na,ByteArray.push]
theorem BR{k:IntKind}{S:SH}: ∀{xs:List Int} {cs:List Value},oS (rI k) S cs xs→cs=xs.map (Value.int k)
 |[],cs,h=>by rw [show cs=[]from h];rfl
 |x::xs,cs,⟨a,b,e,h1,h2⟩=>by
  rw [e,show a=[.int k x]from h1,BR h2]
  rfl
section
variable{ty:TypeId}
theorem Fx{xs:List Int}{st dt e:TypeId}(hs:E.P.underlying st=some (.slice e))(he:E.P.underlying e=some (.int .u8))(hd:E.P.underlying dt=some .string)(ti:TI E.P e sz bytes agg z)(hsz:Nat.beq sz 1=true)(hx:aH E.N G x (tD (ea (rI .u8)) xs)):bB E O G ⟨dst,.convert st dt x,ty,pos,after,g⟩ (tD rS (na xs)):= .of_pure fun a w S hsat _ hf=>by
 obtain⟨ad,cap,hv,hle,hmax,hsl⟩:=jx.1 (hx S a hf)
 refine⟨.string ⟨(na xs).toArray⟩,?_,nR.2 rfl⟩
 have key: ∀(ad:Option Addr),zf (rI .u8) S ad xs→(ad=none→xs=[])→(Conv.bytesToString (.slice ad xs.length cap)).run E.P w= .ok (.string ⟨(na xs).toArray⟩) w:=fun ad h h0=>by
  cases ad with
  |none=>rw [h0 rfl];rfl
  |some p=>
   have hl:(loadCells p xs.length).run E.P w= .ok (xs.map (Value.int .u8)).toArray w:=by
    rcases h with h|⟨b,off,cc,T,fr,h1,h2,h3⟩
    ·rw [h];rfl
    ·cases h1
     obtain⟨c',h4,h5⟩:=hsat.part h2 (j4 h3)
     have h6:xs.length*(rI .u8).sz=xs.length:=by show xs.length*1=_;omega
     rw [h6]at h3 h5
     have h7:=BR h3
     exact pz h4 (h5.trans h7) (by simp)
   rw [run_bytesToString w p xs.length cap xs hl,ya]
   simp [ByteArray.empty,ByteArray.emptyWithCapacity]
   rfl
 simp [execOp,hv,run_convert_bytes_string w st dt e _ _ _ hs he hd,key ad hsl (fun h=>by
  rcases hsl with h1|⟨b,off,cc,T,fr,h1,_⟩
  ·exact h1
  ·rw [h]at h1;cases h1)]
theorem Fu{e:TypeId}(ha:E.P.underlying t=some (.array n e))(ti:TI E.P e sz bytes agg z)(hn:Nat.ble n maxLen=true)(hx:aH E.N G x (bv (lF r n) xs)):bB E O G ⟨dst,.slice t x none none none,ty,pos,after,g⟩ (tD (ea r) xs):= .of_pure fun a w S _ _ hf=>by
 obtain⟨b,off,c,T,fr,h1,h2,h3,h4⟩:=hx S a hf
 have hz:(⟨b,off,none⟩:Addr).add 0=⟨b,off,none⟩:=by rw [fH,Nat.add_zero]
 refine⟨.slice (some ⟨b,off,none⟩) n n,?_,jx.2 ⟨_,_,by rw [h3],by omega,ko hn,.inr ⟨b,off,c,T,fr,rfl,h2,by rw [h3];exact h4⟩⟩⟩
 by_cases h0:n=0
 ·subst h0
  simp [execOp,h1,Instr.sliceAt,gO ha,ti.sizeOf,Instr.sliceBounds,Instr.sureAddr]
 ·simp [execOp,h1,Instr.sliceAt,gO ha,ti.sizeOf,Instr.sliceBounds,Instr.sureAddr,h0,hz]
theorem Fw{y:α}{ix:Operand}{e:TypeId}{k:IntKind}{i:Int}(ht:E.P.underlying t=some (.array n e))(ti:TI E.P e sz bytes agg z)(hsz:r.sz=sz)(hag:r.agg=agg)(hx:aH E.N G x (tD (lF r n) xs))(hi:aH E.N G ix (tD (rI k) i))(hy:fm xs i=some y):bB E O G ⟨dst,.index t x ix,ty,pos,after,g⟩ (tD r y):= .of_pure fun a w S _ _ hf=>by
 obtain⟨cs,h1,h2,h3⟩:=hx S a hf
 have h1' :a.eval x= .agg cs.toArray:=h1
 have h4:a.eval ix= .int k i:=cq.1 (hi S a hf)
 obtain⟨g1,g2⟩:=iI hy
 have hlt:i.toNat<xs.length:=(m8.1 g2).1
 have hg:=ul h3 g2
 have hin:0≤i∧i<(n:Int):=⟨g1,by omega⟩
 refine⟨r.val ((cs.drop (i.toNat*r.sz)).take r.sz),?_,_,rfl,hg⟩
 have hp:(part e cs.toArray (i.toNat*sz)).run E.P w= .ok (r.val ((cs.drop (i.toNat*r.sz)).take r.sz)) w:=by
  subst hsz
  subst hag
  have hl:=r.len hg
  unfold part
  simp only [nF,ti.isAgg,pb]
  cases hA:r.agg with
  |true=>
   simp [ti.sizeOf,Rp.val,hA]
  |false=>
   have h1:=r.sc hA
   rw [h1,Nat.mul_one]at hl ⊢
   cases hd:cs.drop i.toNat with
   |nil=>rw [hd]at hl;simp at hl
   |cons v l=>
    have hv:cs[i.toNat]? =some v:=by
     have:=wx (xs:=cs) (i:=i.toNat) (j:=0)
     rw [hd]at this
     simpa using this.symm
    simp [Rp.val,hA,hv]
 simp [execOp,h1',h4,Instr.index,asIntOf,gO ht,hin,ti.sizeOf,hp]

def nm(s:eA)(i:Nat):Nat×Nat:=Utf8.decode ⟨s.toArray⟩ i
def nS(s:eA):Nat→Nat→List (Int×Int)
 |0,_=>[]
 |f+1,i=>if i<s.length then((i:Int),((nm s i).1:Int))::nS s f (i+(nm s i).2)else []
def BL(s:eA):List (Int×Int):=nS s (s.length+1) 0
theorem Kk(s:eA)(i:Nat):1≤(nm s i).2:=by
 unfold nm Utf8.decode
 simp only []
 repeat' split
 all_goals simp
def yM(r:Nat)(s:eA)(left:List (Int×Int)):OE where
 fp:=fun j=>j=r
 p:=fun w S=>S r=none∧ ∃pos f,w.heap[r]? =some (.stringIter ⟨s.toArray⟩ pos)∧left=nS s f pos∧s.length<pos+f
 here:=by
  rintro w S ⟨_,pos,f,h,_⟩ j rfl
  exact(oK.1 h).1
 kept:=by
  rintro C w w' S S' ⟨h0,pos,f,h,h2⟩ k hC
  have hlt:=(oK.1 h).1
  exact⟨by rw [k.old r hlt (hC r rfl)];exact h0,pos,f,by rw [k.heap r hlt (hC r rfl)];exact h,h2⟩
theorem Ct(ht:E.P.underlying t=some .string)(hx:aH E.N G x (tD rS s))(hd:Nat.blt d E.N.n=true)(k: ∀r,RG E ops Q rest (yM r s (BL s)::O) ((d,tV (aO r 0))::G)):RG E ops Q (⟨some d,.range t x,ty,pos,after,none⟩::rest) O G:= .of rfl fun a w S st=>by
 have hv:a.eval x= .string ⟨s.toArray⟩:=nR.1 (hx S a st.facts)
 have hrun:(execOp a.eval ⟨some d,.range t x,ty,pos,after,none⟩).run E.P w= .ok (.value (aO w.heap.size 0)) (w.alloc (.stringIter ⟨s.toArray⟩ 0)):=by
  simp [execOp,hv,Instr.range,gO ht,aO]
 refine⟨fun c h=>(by cases h),?_⟩
 rw [hrun]
 obtain⟨he,hs',hno⟩:=dS (w:=w) (.stringIter ⟨s.toArray⟩ 0) st.sat
 exact k w.heap.size _ _ S ⟨st.ext.step0 he,hs',kD st.own he ⟨hno,0,s.length+1,wv w _,rfl,by omega⟩ (fun b hb=>by rw [show b=_ from hb];exact ia _) st.base_le,st.facts.put hd rfl⟩
theorem D1{r:Nat}{left:List (Int×Int)}(hx:aH E.N G x (tV (aO r 0)))(hd:Nat.blt d E.N.n=true)(h0:left=[]→RG E ops Q rest (yM r s []::O) ((d,tNx false)::G))(h1: ∀e l,left=e::l→RG E ops Q rest (yM r s l::O) ((d,tT [tD rB true,tD (rI .i64) e.1,tD (rI .i32) e.2])::G)):
  RG E ops Q (⟨some d,.next x true,ty,pos,after,none⟩::rest) (yM r s left::O) G:= .of rfl fun a w S st=>by
 obtain⟨⟨⟨hno,ps,f,hb,hl,hf⟩,hfp⟩,hap,hO⟩:=st.own
 have hv:a.eval x=aO r 0:=hx S a st.facts
 have hsz:(ByteArray.mk s.toArray).size=s.length:=by simp [ByteArray.size]
 have hg:(getObj r).run E.P w= .ok (.stringIter ⟨s.toArray⟩ ps) w:=by
  simp [getObj,Sem.run,hb]
 by_cases hp:ps<s.length
 ·obtain⟨f,rfl⟩: ∃f',f=f' +1:=⟨f-1,by omega⟩
  have hl2:left=((ps:Int),((nm s ps).1:Int))::nS s f (ps+(nm s ps).2):=by rw [hl,nS,c9 hp]
  have hset:(setObj r (.stringIter ⟨s.toArray⟩ (ps+(nm s ps).2))).run E.P w= .ok () {w with heap:=w.heap.setIfInBounds r (.stringIter ⟨s.toArray⟩ (ps+(nm s ps).2))}:=by
   simp [setObj,Sem.run,hb]
  have hrun:(execOp a.eval ⟨some d,.next x true,ty,pos,after,none⟩).run E.P w= .ok (.value (.tuple #[.bool true,.int .i64 ps,.int .i32 (nm s ps).1])) {w with heap:=w.heap.setIfInBounds r (.stringIter ⟨s.toArray⟩ (ps+(nm s ps).2))}:=by
   have h3:(Instr.next (aO r 0) true ty).run E.P w= .ok (.tuple #[.bool true,.int .i64 ps,.int .i32 (nm s ps).1]) {w with heap:=w.heap.setIfInBounds r (.stringIter ⟨s.toArray⟩ (ps+(nm s ps).2))}:=by
    unfold Instr.next aO
    simp only [nF,hg,pb,hsz,hp,nI]
    rw [show Utf8.decode ⟨s.toArray⟩ ps=nm s ps from rfl]
    simp only [nF,hset,pb]
    rfl
   simp [execOp,hv,h3]
  refine⟨fun c h=>(by cases h),?_⟩
  rw [hrun]
  have hblt:=(oK.1 hb).1
  have hx' :d6 (fun k=> ∃f∈[yM r s left],f.fp k) w S {w with heap:=w.heap.setIfInBounds r (.stringIter ⟨s.toArray⟩ (ps+(nm s ps).2))} S:=
   ⟨rfl,rfl,rfl,ia _,by simp,fun k _ hk=>by
    have:r≠k:=fun e=>hk ⟨_,D9 _,e.symm⟩
    simp [this],SH.le_refl _,fun _ _ _=>rfl⟩
  have hs' :ft {w with heap:=w.heap.setIfInBounds r (.stringIter ⟨s.toArray⟩ (ps+(nm s ps).2))} S:=st.sat.same fun k o hk=>by
   have:r≠k:=fun e=>by subst e;rw [hno]at hk;cases hk
   simp [this]
  have hnew:(yM r s (nS s f (ps+(nm s ps).2))).p {w with heap:=w.heap.setIfInBounds r (.stringIter ⟨s.toArray⟩ (ps+(nm s ps).2))} S:=
   ⟨hno,_,f,by simp [hblt],rfl,by have:=Kk s ps;omega⟩
  refine h1 _ _ hl2 _ _ S ((st.turn (O1:=[yM r s left]) (O2:=[yM r s (nS s f (ps+(nm s ps).2))]) hx' hs' ⟨⟨hnew,fun k hk=> .inl (gx _)⟩,fun _ h=>(by cases h),trivial⟩ (fun k ⟨g,hg,hk⟩=>?_)).put hd ?_)
  ·have:g=yM r s (nS s f (ps+(nm s ps).2)):=by simpa using hg
   subst this
   exact .inl ⟨_,D9 _,hk⟩
  ·exact⟨[.bool true,.int .i64 ps,.int .i32 (nm s ps).1],rfl,eQ.2 rfl,cq.2 rfl,cq.2 rfl,trivial⟩
 ·have hl2:left=[]:=by
   rw [hl]
   cases f with
   |zero=>rfl
   |succ f=>rw [nS,cZ hp]
  have hrun:(execOp a.eval ⟨some d,.next x true,ty,pos,after,none⟩).run E.P w= .ok (.value (.tuple #[.bool false])) w:=by
   have h3:(Instr.next (aO r 0) true ty).run E.P w= .ok (.tuple #[.bool false]) w:=by
    unfold Instr.next aO
    simp only [nF,hg,pb,hsz,hp,s3]
    rfl
   simp [execOp,hv,h3]
  refine⟨fun c h=>(by cases h),?_⟩
  rw [hrun]
  subst hl2
  exact h0 rfl _ _ S (st.put hd ⟨[],rfl⟩)
theorem sV{t:Ty}{u:List Ty}{i:Nat}(hu:u[i]? =some t)(hx:aH E.N G x (tT u)):bB E O G ⟨dst,.extract x i,ty,pos,after,g⟩ t:=xR hu hx
theorem MH{Z:List β→Prop}{Of:List β→List OE}{Gf:iO}(h: ∀l,Z l→(∀l2,l2.length<l.length→Z l2→LG E Q c (Of l2) Gf)→LG E Q c (Of l) Gf)(l:List β)(hz:Z l):LG E Q c (Of l) Gf:=by
 have key: ∀(n:Nat) (l:List β),l.length≤n→Z l→LG E Q c (Of l) Gf:=by
  intro n
  induction n with
  |zero=>intro l hn hz;exact h l hz fun l2 h2 _=>absurd h2 (by omega)
  |succ n ih=>intro l hn hz;exact h l hz fun l2 h2 hz2=>ih l2 (by omega) hz2
 exact key l.length l (ia _) hz
end

abbrev NG:=Nat→(Option Nat×Nat)×(Nat→Option Nat×Nat)
inductive NPl where
 |o
 |i (k:Nat)
 |l (k j:Nat)
section
def Il(q:Nat→Option Nat×Nat)(zs:List (List α)):List Value:=zs.mapIdx fun j z=>aQ (q j).1 (q j).2 z.length
def Qf(prj:β→List (List α))(g:NG)(x:List β):List Value:=x.mapIdx fun k y=>aQ (g k).1.1 (g k).1.2 (prj y).length
def nsB(prj:β→List (List α))(l:Option Nat)(g:NG)(x:List β)(h:Option (Nat×Nat)):NPl→Option Nat
 | .o=>l
 | .i k=>(x[k]?).bind fun _=>(g k).1.1
 | .l k j=>if h=some (k,j)then none else((x[k]?).bind fun y=>(prj y)[j]?).bind fun _=>((g k).2 j).1
structure nstP(prj:β→List (List α))(r:Rp α)(T1 T2 T3:TypeId)(l:Option Nat)(cap n:Nat)(g:NG)(x:List β)(h:Option (Nat×Nat))(w:World)(S:SH):Prop where
 len:x.length=n
 out:vG false rV T1 l cap (Qf prj g x) w S
 inn: ∀k y,x[k]? =some y→vG false rV T2 (g k).1.1 (g k).1.2 (Il (g k).2 (prj y)) w S
 lvs: ∀k y j z,x[k]? =some y→(prj y)[j]? =some z→h≠some (k,j)→vG true r T3 ((g k).2 j).1 ((g k).2 j).2 z w S
 inj: ∀s t b,nsB prj l g x h s=some b→nsB prj l g x h t=some b→s=t
variable{prj:β→List (List α)}{T1 T2 T3:TypeId}{l:Option Nat}{g:NG}{x:List β}{h:Option (Nat×Nat)}
end
section
variable{prj:β→List (List α)}{T1 T2 T3:TypeId}{l:Option Nat}{g:NG}{x:List β}{h:Option (Nat×Nat)}
variable{ty:TypeId}{gd:Option (Nat×Bool)}
open Classical in
noncomputable def PT(w:World)(S:SH)(P:Nat→Prop):SH:=fun b=>if P b then w.heap[b]? else S b
def g0(hs:List (Option Nat×Nat)):NG:=fun k=>(hs.getD k (none,0),fun _=>(none,0))
def tsB(l:Option Nat)(q:Nat→Option Nat×Nat)(zs:List (List α))(h:Option Nat):Option Nat→Option Nat
 |none=>l
 |some j=>if h=some j then none else(zs[j]?).bind fun _=>(q j).1
structure rowP(r:Rp α)(T2 T3:TypeId)(l:Option Nat)(cap n:Nat)(q:Nat→Option Nat×Nat)(zs:List (List α))(h:Option Nat)(w:World)(S:SH):Prop where
 len:zs.length=n
 inn:vG false rV T2 l cap (Il q zs) w S
 lvs: ∀j z,zs[j]? =some z→h≠some j→vG true r T3 (q j).1 (q j).2 z w S
 inj: ∀s t b,tsB l q zs h s=some b→tsB l q zs h t=some b→s=t
variable{q:Nat→Option Nat×Nat}{zs:List (List α)}{k:Option Nat}
end
end Go.Proofs.YtfhhakidodmdfaaGreatDoor

