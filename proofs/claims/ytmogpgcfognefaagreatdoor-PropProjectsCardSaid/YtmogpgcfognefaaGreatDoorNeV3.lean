/- co of this claim: W28, W30, W31, W32, W33, W34, W35, W36, W37, W38, W39, W40, W48, W50, W51, W41, W42, W43. -/
import Derived.Test.YtmogpgcfognefaaGreatDoorNeV2
import Derived.MapKept
import Derived.Scope
import Derived.ChangeKeysEq
import Derived.Lib.Bytealg
import Derived.Maps.Range
import Derived.Laws.IdiomRangeMap
import Derived.Test.YtmogpgcfognefaaGreatDoorNeV1
import Derived.Laws.BytesString
import Derived.Below
set_option linter.all false
namespace Go.Proofs.YtmogpgcfognefaaGreatDoor
open Go

variable{β α:Type}{b:Nat}{c:Code}{d:Nat}{e:TypeId}{k:IntKind}{r:Rp α}{x:Operand}{y:β}
theorem og3 [Inhabited α]{c b:Bool}{x:Option α}{k:α→Option β}{d:Option β}{r:β}(h:c=true→(if b=true then x.bind k else d)=some r): ∃y,((c&&b)=true→x=some y∧k y=some r)∧(c=true→b=false→d=some r):=by
 cases c with
 |false=>exact⟨default,fun e=>(by cases e),fun e=>(by cases e)⟩
 |true=>
  obtain⟨y,h1,h2⟩:=og (h rfl)
  exact⟨y,fun e=>h1 e,fun _ e=>h2 e⟩
def nV{κ β:Type} [DecidableEq κ]:List (κ×β)→κ→Option β
 |[],_=>none
 |p::m,k=>if p.1=k then some p.2 else nV m k
def fB{κ β:Type} [DecidableEq κ]:List (κ×β)→κ→β→List (κ×β)
 |[],k,v=>[(k,v)]
 |p::m,k,v=>if p.1=k then(k,v)::m else p::fB m k v
def Kf{κ:Type}(P:Program)(kt:TypeId)(kv:κ→Value):Prop:= ∃d,P.underlying kt=some d∧(∀a,MapKept.IsKey d (kv a))∧ ∀a b,kv a=kv b→a=b
def Xy(k:IntKind)(n:Int):Value:= .int k n
variable{P:Program}{a:Act}{kt:TypeId}
theorem di(h:P.underlying kt=some (.int k)):Kf P kt (Xy k):=⟨_,h,fun _=>rfl,fun a b e=>by injection e⟩
structure MV(β:Type) where
 p:World→SH→β→Option Nat×Nat→Value→Prop
 here: ∀{w S y o v},p w S y o v→ ∀j,o.1=some j→j<w.heap.size
 kept: ∀{C w w' S S' y o v},p w S y o v→fM C w S w' S' →(∀j,o.1=some j→ ¬C j)→p w' S' y o v
def LW{β:Type}(ty:β→Ty):MV β where
 p:=fun _ S y o v=>o.1=none∧(ty y).p S v
 here:=fun h j hj=>by rw [h.1]at hj;cases hj
 kept:=fun h k _=>⟨h.1,(ty _).mono k.keep h.2⟩
variable{S S' :SH}{V:MV β}{es:List Bool}{κ:Type}{kv:κ→Value}{m:List (κ×β)}{o:Oper}{os:List (Option Nat×Nat)}{q:Rp β}{v:Value}{w w' :World}{xs:List α}
section
variable [DecidableEq κ]{d:TypeDesc}{k:κ}
def ug(V:MV β)(kv:κ→Value)(w:World)(S:SH)(h:Option κ):List MapEntry→List (Option Nat×Nat)→List (κ×β)→Prop
 |[],[],[]=>True
 |e::es,o::os,q::m=>e.key=kv q.1∧(if h=some q.1 then o.1=none else V.p w S q.2 o e.val)∧(∀o' ∈os,∀j,o.1=some j→o'.1≠some j)∧(∀p∈m,p.1≠q.1)∧ug V kv w S h es os m
 |_,_,_=>False
theorem D7{h:Option κ}: ∀{es:List MapEntry} {os:List (Option Nat×Nat)} {m:List (κ×β)},ug V kv w S h es os m→ ∀o∈os,∀j,o.1=some j→j<w.heap.size
 |[],[],[],_,o,ho,_,_=>by cases ho
 |e::es,o::os,q::m,⟨_,h2,_,_,h5⟩,o',ho,j,hj=>by
  rcases iC.1 ho with rfl|ho
  ·split at h2
   ·rw [h2]at hj;cases hj
   ·exact V.here h2 j hj
  ·exact D7 h5 o' ho j hj
theorem yl{C:Nat→Prop}(k:fM C w S w' S'){h:Option κ}: ∀{es:List MapEntry} {os:List (Option Nat×Nat)} {m:List (κ×β)},ug V kv w S h es os m→(∀o∈os,∀j,o.1=some j→ ¬C j)→ug V kv w' S' h es os m
 |[],[],[],_,_=>trivial
 |e::es,o::os,q::m,⟨h1,h2,h3,h4,h5⟩,hC=>⟨h1,by
  split
  ·rename_i hh;rw [dy hh]at h2;exact h2
  ·rename_i hh;rw [dd hh]at h2;exact V.kept h2 k (hC o (lV ..)),h3,h4,yl k h5 fun o' ho=>hC o' (kG _ ho)⟩
theorem Af{h:Option κ}: ∀{es:List MapEntry} {os:List (Option Nat×Nat)} {m:List (κ×β)},ug V kv w S h es os m→(∀p∈m,h≠some p.1)→ug V kv w S none es os m
 |[],[],[],_,_=>trivial
 |e::es,o::os,q::m,⟨h1,h2,h3,h4,h5⟩,hk=>⟨h1,by
  rw [dd (hk q (lV ..))]at h2
  rw [dd (by simp)];exact h2,h3,h4,Af h5 fun p hp=>hk p (kG _ hp)⟩
theorem qb(hd: ∀a,MapKept.IsKey d (kv a))(hi: ∀a b,kv a=kv b→a=b)(a b:κ):Instr.sameNow d (kv a) (kv b)=some (decide (a=b)):=by
 obtain⟨r,h1,h2⟩:=MapKept.sameNow_of_keys (hd a) (hd b)
 rw [h1]
 by_cases h:a=b
 ·subst h;rw [h2.2 rfl];simp
 ·rw [wJ h]
  cases r with
  |false=>rfl
  |true=>exact absurd (hi _ _ (h2.1 rfl)) h
theorem xb(hd: ∀a,MapKept.IsKey d (kv a))(hi: ∀a b,kv a=kv b→a=b): ∀{es:List MapEntry} {os:List (Option Nat×Nat)} {m:List (κ×β)} (i:Nat),ug V kv w S none es os m→
  ∃os',(∀x∈os',x∈os∨x.1=none)∧ug V kv w S (some k) es os' m∧
   ((nV m k=none∧Instr.findNow d (kv k) es i=some none)∨ ∃(y:β) (o:Option Nat×Nat) (e:MapEntry) (j:Nat),nV m k=some y∧o∈os∧V.p w S y o e.val∧Instr.findNow d (kv k) es i=some (some (j,e.val))∧ ∀x∈os',∀q,o.1=some q→x.1≠some q)
 |[],[],[],i,_=>⟨[],fun x hx=>(by cases hx),trivial,.inl ⟨rfl,rfl⟩⟩
 |e::es,o::os,q::m,i,⟨h1,h2,h3,h4,h5⟩=>by
  rw [dd (by simp)]at h2
  by_cases hk:q.1=k
  ·refine⟨(none,0)::os,fun x hx=>?_,⟨h1,by rw [dy (by rw [hk])],fun _ _ _ hj=>(by cases hj),h4,?_⟩,.inr ⟨q.2,o,e,i,by unfold nV;rw [dy hk],lV ..,h2,?_,fun x hx j hj=>?_⟩⟩
   ·rcases iC.1 hx with rfl|hx
    ·exact .inr rfl
    ·exact .inl (kG _ hx)
   ·have: ∀{es:List MapEntry} {os:List (Option Nat×Nat)} {m:List (κ×β)},ug V kv w S none es os m→(∀p∈m,p.1≠k)→ug V kv w S (some k) es os m:=by
     intro es
     induction es with
     |nil=>intro os m h _;cases os<;>cases m<;>first|trivial|exact h.elim
     |cons e es ih=>
      intro os m h hm
      cases os with
      |nil=>cases m<;>exact h.elim
      |cons o os=>
       cases m with
       |nil=>exact h.elim
       |cons q m=>
        obtain⟨g1,g2,g3,g4,g5⟩:=h
        rw [dd (by simp)]at g2
        exact⟨g1,by rw [dd (fun e=>hm q (lV ..) (mO e).symm)];exact g2,g3,g4,ih g5 fun p hp=>hm p (kG _ hp)⟩
    exact this h5 (fun p hp=>by rw [←hk];exact h4 p hp)
   ·unfold Instr.findNow
    rw [h1,qb hd hi,hk,yK rfl]
   ·rcases iC.1 hx with rfl|hx
    ·exact fun e=>by cases e
    ·exact h3 x hx j hj
  ·obtain⟨os',g1,g2,g3⟩:=xb hd hi (i+1) h5
   refine⟨o::os',fun x hx=>?_,⟨h1,by rw [dd (fun e=>hk (mO e).symm)];exact h2,fun o' ho' j hj=>?_,h4,g2⟩,?_⟩
   ·rcases iC.1 hx with rfl|hx
    ·exact .inl (lV ..)
    ·exact(g1 x hx).imp (kG _) id
   ·rcases g1 o' ho' with h|h
    ·exact h3 o' h j hj
    ·rw [h];exact fun e=>by cases e
   ·have hf:Instr.findNow d (kv k) (e::es) i=Instr.findNow d (kv k) es (i+1):=by
     conv=>lhs;unfold Instr.findNow
     rw [h1,qb hd hi,wJ (fun e=>hk e.symm)]
    have hm:nV (q::m) k=nV m k:=by conv=>lhs;unfold nV;rw [dd hk]
    rw [hf,hm]
    refine g3.imp id fun⟨y,o1,e1,j,f1,f2,f3,f4,f5⟩=>⟨y,o1,e1,j,f1,kG _ f2,f3,f4,fun x hx q hq=>?_⟩
    rcases iC.1 hx with rfl|hx
    ·exact fun e=>h3 o1 f2 q e hq
    ·exact f5 x hx q hq
theorem z6(x:α)(xs:List α)(j:Nat)(f:α→α):(x::xs).modify (j+1) f=x::xs.modify j f:=by simp [List.modify_succ_cons]
theorem D8(hd: ∀a,MapKept.IsKey d (kv a))(hi: ∀a b,kv a=kv b→a=b){y:β}{o:Option Nat×Nat}{v:Value}{born:Nat}(hv:V.p w S y o v): ∀{es:List MapEntry} {os:List (Option Nat×Nat)} {m:List (κ×β)} (i:Nat),ug V kv w S (some k) es os m→(∀o' ∈os,∀j,o.1=some j→o'.1≠some j)→
    ∃os',(∀x∈os',x∈os∨x=o)∧
      ((∃(j:Nat) (e:MapEntry),Instr.findNow d (kv k) es i=some (some (i+j,e.val))∧es[j]? =some e∧e.key=kv k∧ug V kv w S none (es.modify j fun e=>{e with key:=kv k,val:=v}) os' (fB m k y))∨
        (Instr.findNow d (kv k) es i=some none∧ug V kv w S none (es++[⟨kv k,v,born⟩]) os' (fB m k y)))
  |[],[],[],i,_,_=>⟨[o],fun x hx=> .inr (uk.1 hx),.inr ⟨rfl,⟨rfl,by rw [dd (by simp)];exact hv,fun _ h=>(by cases h),fun _ h=>(by cases h),trivial⟩⟩⟩
  |e::es,o1::os,q::m,i,⟨h1,h2,h3,h4,h5⟩,ha=>by
    by_cases hk:q.1=k
    · refine⟨o::os,fun x hx=>?_,.inl ⟨0,e,?_,rfl,by rw [h1,hk],?_⟩⟩
      · rcases iC.1 hx with rfl|hx
        · exact .inr rfl
        · exact .inl (kG _ hx)
      · unfold Instr.findNow
        rw [h1,qb hd hi,hk,yK rfl]
        rfl
      · unfold fB
        rw [dy hk,List.modify_zero_cons]
        exact⟨rfl,by rw [dd (by simp)];exact hv,fun o' ho' =>ha o' (kG _ ho'),fun p hp=>by rw [←hk];exact h4 p hp,
          Af h5 fun p hp e=>h4 p hp (by rw [hk];exact(mO e).symm)⟩
    · obtain⟨os',g1,g2⟩:=D8 hd hi (born:=born) hv (i+1) h5 fun o' ho' =>ha o' (kG _ ho')
      rw [dd (fun e=>hk (mO e).symm)]at h2
      have hf:Instr.findNow d (kv k) (e::es) i=Instr.findNow d (kv k) es (i+1):=by
        conv=>lhs;unfold Instr.findNow
        rw [h1,qb hd hi,wJ (fun e=>hk e.symm)]
      have hm:fB (q::m) k y=q::fB m k y:=by conv=>lhs;unfold fB;rw [dd hk]
      have hap: ∀o' ∈os',∀j,o1.1=some j→o'.1≠some j:=fun o' ho' j hj=>by
        rcases g1 o' ho' with h|rfl
        · exact h3 o' h j hj
        · exact fun e=>ha o1 (lV ..) j e hj
      have hne: ∀p∈fB m k y,p.1≠q.1:=by
        have: ∀m:List (κ×β),(∀p∈m,p.1≠q.1)→ ∀p∈fB m k y,p.1≠q.1:=by
          intro m
          induction m with
          |nil=>intro _ p hp;rw [uk.1 hp];exact fun e=>hk e.symm
          |cons p0 m ih=>
            intro hm p hp
            unfold fB at hp
            split at hp
            · rcases iC.1 hp with rfl|hp
              · exact fun e=>hk e.symm
              · exact hm p (kG _ hp)
            · rcases iC.1 hp with rfl|hp
              · exact hm _ (lV ..)
              · exact ih (fun p hp=>hm p (kG _ hp)) p hp
        exact this m h4
      rw [hf,hm]
      refine⟨o1::os',fun x hx=>?_,g2.imp (fun⟨j,e',f1,f2,f3,f4⟩=>⟨j+1,e',by rw [f1];congr 3;omega,by simpa using f2,f3,?_⟩) fun⟨f1,f2⟩=>⟨f1,?_⟩⟩
      · rcases iC.1 hx with rfl|hx
        · exact .inl (lV ..)
        · exact(g1 x hx).imp (kG _) id
      · rw [z6]
        exact⟨h1,by rw [dd (by simp)];exact h2,hap,hne,f4⟩
      · exact⟨h1,by rw [dd (by simp)];exact h2,hap,hne,f2⟩
theorem D6{h:Option κ}: ∀{es:List MapEntry} {os:List (Option Nat×Nat)} {m:List (κ×β)},ug V kv w S h es os m→ ∀x∈es,∃q∈m,x.key=kv q.1
 |[],[],[],_,x,hx=>by cases hx
 |e::es,o::os,q::m,⟨h1,_,_,_,h5⟩,x,hx=>by
  rcases iC.1 hx with rfl|hx
  ·exact⟨q,lV ..,h1⟩
  ·obtain⟨q',g1,g2⟩:=D6 h5 x hx
   exact⟨q',kG _ g1,g2⟩
theorem Lq(hd: ∀a,MapKept.IsKey d (kv a)){h:Option κ}{es:List MapEntry}{i:Nat}(h4:ug V kv w S h es os m)(g1:Instr.findNow d (kv k) es i=some none){x:MapEntry}(hx:x∈es):x.key≠kv k:=by
 rcases MapKept.findNow_spec (hd k) es i (fun y hy=>by obtain⟨q,_,e⟩:=D6 h4 y hy;rw [e];exact hd _)with⟨_,h2⟩|⟨j,e,h2,_⟩
 ·exact h2 x hx
 ·rw [g1]at h2;cases h2
def BO(V:MV β)(kv:κ→Value)(b:Nat)(h:Option κ)(os:List (Option Nat×Nat))(m:List (κ×β)):OE where
 fp:=fun j=>j=b∨ ∃o∈os,o.1=some j
 p:=fun w S=>S b=none∧(∀o∈os,o.1≠some b)∧ ∃es clock,w.heap[b]? =some (.map es clock)∧ug V kv w S h es.toList os m∧MapKept.Stamped es clock
 here:=by
  intro w S ⟨_,_,es,clock,h3,h4,_⟩ j hj
  rcases hj with rfl|⟨o,ho,hj⟩
  ·exact(pY.1 h3).1
  ·exact D7 h4 o ho j hj
 kept:=by
  intro C w w' S S' ⟨h1,h2,es,clock,h3,h4,hst⟩ k hC
  have hlt:=(pY.1 h3).1
  exact⟨by rw [k.old b hlt (hC b (.inl rfl))];exact h1,h2,es,clock,by rw [k.heap b hlt (hC b (.inl rfl))];exact h3,yl k h4 (fun o ho j hj=>hC j (.inr ⟨o,ho,hj⟩)),hst⟩
def ne(b:Nat):Value:= .map (some b)
end
variable{E:En}{G:kb}{N:Fr}{O:List OE}{X:Type}{Q:Exit→Act→World→Prop}{T:TypeId}{after:Array Edge}{dst:Option Tmp}{et:TypeId}{fp:Nat→Prop}{n:Nat}{ops:Array Oper}{pos:String}{γ:Type}{rest:List Oper}{t:TypeId}{u:Rp γ}{x1:OE}{z:List Value}
section
variable [DecidableEq κ]{k:κ}{i v:Operand}{dst:Option Nat}{ty:TypeId}
def Ei(N:Fr)(G:kb)(x:Operand)(u:Value):Prop:= ∀S a,co N S a G→a.eval x=u
theorem kp{q:IntKind}{n:Int}(h:aE N G x (tD (rI q) n)):Ei N G x (Xy q n):=fun S a hf=>cZ.1 (h S a hf)
def ZV(P:Program)(T:TypeId)(z:Value):Prop:=(P.info? T).bind (·.zero)=some z
theorem ZV.run{z:Value}(h:ZV P T z)(w:World):(zeroValue T).run P w= .ok z w:=by
 unfold ZV at h
 cases hi:P.info? T with
 |none=>rw [hi]at h;cases h
 |some i=>
  rw [hi]at h
  have h' :i.zero=some z:=h
  simp [zeroValue,typeInfo,hi,h']
theorem xg(V:MV β)(kv:κ→Value)(hd:Nat.blt d E.N.n=true)(k: ∀b,RG E ops Q rest (BO V kv b none [] []::O) ((d,tV (ne b))::G)):
  RG E ops Q (⟨some d,.makeMap t none,ty,pos,after,none⟩::rest) O G:= .of rfl fun a w S st=>by
 obtain⟨he,hs',hno⟩:=eh (w:=w) (.map #[] 0) st.sat
 have hrun:(execOp a.eval ⟨some d,.makeMap t none,ty,pos,after,none⟩).run E.P w= .ok (.value (ne w.heap.size)) (w.alloc (.map #[] 0)):=by
  simp [execOp,Instr.makeMap,ne]
 refine⟨fun c h=>(by cases h),?_⟩
 rw [hrun]
 exact k w.heap.size _ _ S ⟨st.ext.step0 he,hs',nU st.own he ⟨hno,fun _ h=>(by cases h),#[],0,Am w _,trivial,MapKept.stamped_empty 0⟩ (fun b hb=>by
  rcases hb with rfl|⟨_,h,_⟩
  ·exact gp _
  ·cases h) st.base_le,st.facts.put hd rfl⟩
theorem wq{kk:Value}{es:Array MapEntry}{clock:Nat}{q:TypeDesc}{z:Value}{u:Option (Nat×Value)}(hm:P.underlying t=some (.map kt et))(hq:P.underlying kt=some q)(hk:MapKept.IsKey q kk)(hb:w.heap[b]? =some (.map es clock))(hz:ZV P et z)(hf:Instr.findNow q kk es.toList 0=some u)(c:Bool):(Instr.lookup t (ne b) kk c).run P w= .ok (if c then .tuple #[(u.map (·.2)).getD z,.bool u.isSome]else(u.map (·.2)).getD z) w:=by
 cases u with
 |none=>simp [Instr.lookup,ne,hU hm,FM hb,IR hq hk,MapKept.run_findKey hq hf,hz.run,Result.andThen]
 |some r=>simp [Instr.lookup,ne,hU hm,FM hb,IR hq hk,MapKept.run_findKey hq hf,Result.andThen]
theorem y0{kk:Value}{es:Array MapEntry}{clock:Nat}{q:TypeDesc}{val:Value}(hm:P.underlying t=some (.map kt et))(hq:P.underlying kt=some q)(hk:MapKept.IsKey q kk)(hb:w.heap[b]? =some (.map es clock)):
  (Instr.findNow q kk es.toList 0=some none→(Instr.mapUpdate t (ne b) kk val).run P w= .ok () {w with heap:=w.heap.setIfInBounds b (.map (es.push ⟨kk,val,clock⟩) (clock+1))})∧
  (∀j e,Instr.findNow q kk es.toList 0=some (some (j,e))→(∀e',es.toList[j]? =some e' →e'.key=kk)→(∃e',es.toList[j]? =some e')→(Instr.mapUpdate t (ne b) kk val).run P w= .ok () {w with heap:=w.heap.setIfInBounds b (.map (es.modify j fun e=>{e with key:=kk,val:=val}) clock)}):=by
 refine⟨fun hf=>?_,fun j e hf hj he=>?_⟩
 ·simp [Instr.mapUpdate,ne,hU hm,FM hb,IR hq hk,MapKept.run_findKey hq hf,IV _ hb,Result.andThen]
 ·obtain⟨e',he'⟩:=he
  have h1:=hj e' he'
  have h2:es[j]? =some e' :=by simpa using he'
  simp [Instr.mapUpdate,ne,hU hm,FM hb,IR hq hk,MapKept.run_findKey hq hf,IV _ hb,Result.andThen,h2,h1,MapKept.run_keyThatStays hk]
theorem Lg{o:Option Nat×Nat}{val:Value}(hs:gR w S)(hm:E.P.underlying t=some (.map kt et))(hk:Kf E.P kt kv)(hp:(BO V kv b (some k) os m).p w S)(hv:V.p w S y o val)(hob:o.1≠some b)(hap: ∀o' ∈os,∀j,o.1=some j→o'.1≠some j):
  ∃w' os',(Instr.mapUpdate t (ne b) (kv k) val).run E.P w= .ok () w' ∧fM (fun j=>j=b) w S w' S∧gR w' S∧(BO V kv b none os' (fB m k y)).p w' S∧(∀j,(BO V kv b none os' (fB m k y)).fp j→(BO V kv b (some k) os m).fp j∨o.1=some j):=by
 obtain⟨hno,hnb,es,clock,h3,h4,hst⟩:=hp
 obtain⟨q,hq,hdk,hinj⟩:=hk
 obtain⟨os',p1,p2⟩:=D8 hdk hinj (born:=clock) hv 0 h4 hap
 have hnb' : ∀o' ∈os',o'.1≠some b:=fun o' ho' =>by
  rcases p1 o' ho' with h|rfl
  ·exact hnb o' h
  ·exact hob
 have hfp: ∀j,(j=b∨ ∃o∈os',o.1=some j)→(j=b∨ ∃o∈os,o.1=some j)∨o.1=some j:=fun j hj=>by
  rcases hj with h|⟨o',ho',e⟩
  ·exact .inl (.inl h)
  ·rcases p1 o' ho' with h|rfl
   ·exact .inl (.inr ⟨o',h,e⟩)
   ·exact .inr e
 have hw: ∀X:Obj,fM (fun j=>j=b) w S {w with heap:=w.heap.setIfInBounds b X} S∧gR {w with heap:=w.heap.setIfInBounds b X} S∧({w with heap:=w.heap.setIfInBounds b X}:World).heap[b]? =some X:=fun X=>
  ⟨⟨rfl,rfl,rfl,gp _,by simp,fun j _ hj=>(MapKept.heap_set (o' :=X) h3).2 j hj,SH.le_refl _,fun _ _ _=>rfl⟩,hs.same fun j o hj=>(MapKept.heap_set (o' :=X) h3).2 j (fun e=>by subst e;rw [hno]at hj;cases hj),(MapKept.heap_set h3).1⟩
 obtain⟨r1,r2⟩:=y0 (val:=val) hm hq (hdk k) h3
 rcases p2 with⟨j,e,g1,g2,g3,g4⟩|⟨g1,g2⟩
 ·rw [qx]at g1
  obtain⟨x1,x2,x3⟩:=hw (.map (es.modify j fun e=>{e with key:=kv k,val:=val}) clock)
  refine⟨_,os',r2 j _ g1 (fun e' he' =>by rw [g2]at he';cases he';exact g3) ⟨_,g2⟩,x1,x2,⟨hno,hnb',_,_,x3,?_,MapKept.stamped_modify hst j _ (fun _ _=>rfl) (fun e' _ he' =>by rw [←IU,g2]at he';cases he';exact g3.symm)⟩,hfp⟩;refine yl x1 (by rw [Array.toList_modify];exact g4) fun o' ho' j hj e=>?_
  subst e
  exact hnb' o' ho' hj
 ·obtain⟨x1,x2,x3⟩:=hw (.map (es.push ⟨kv k,val,clock⟩) (clock+1))
  refine⟨_,os',r1 g1,x1,x2,⟨hno,hnb',_,_,x3,?_,MapKept.stamped_push hst (fun x hx e=>?_)⟩,hfp⟩
  rotate_left
  ·exact Lq hdk h4 g1 hx e
  refine yl x1 (by rw [Array.toList_push];exact g2) fun o' ho' j hj e=>?_
  subst e
  exact hnb' o' ho' hj
end

def BA(tmps:Array Value):ResultVar→Sem Value
 | .tmp t=>pure (tmps.getD t undef)
 | .cell a t=>do loadVar t (←asAddr (tmps.getD a undef))
def NI(P:Program)(N:Fr)(G:kb)(rv:ResultVar)(t:Ty):Prop:= ∀a w S,gR w S→co N S a G→ ∃v,(BA a.tmps rv).run P w= .ok v w∧t.p S v
theorem dY{k:Nat}{t:Ty}(hk:look G k=some t):NI P N G (.tmp k) t:=fun a w S _ hf=>⟨_,rfl,hf.at_ k t hk⟩
variable{U:TypeId}{agg:Bool}{bytes off sz:Nat}
theorem cC{k:Nat}{x:α}(ti:TI P T sz bytes agg z)(hsz:r.sz=sz)(hag:r.agg=agg)(hk:look G k=some (bq r x)):NI P N G (.cell k T) (tD r x):=fun a w S hs hf=>by
 obtain⟨b,off,c,U,fr,h1,h2,h3⟩:=hf.at_ k _ hk
 obtain⟨c',h4,h5⟩:=hs.part h2 (r.len h3)
 rw [←h5]at h3
 have hl:=jl ti h4 hsz hag h3
 have h1' :a.tmps[k]?.getD undef=Value.pointer (some ⟨b,off,none⟩):=by simpa [FN] using h1
 exact⟨_,by simp [BA,h1',asAddr,hl],_,rfl,h3⟩
def NJ(P:Program)(N:Fr)(G:kb):List ResultVar→List Ty→Prop
 |[],[]=>True
 |rv::rvs,t::ts=>NI P N G rv t∧NJ P N G rvs ts
 |_,_=>False
theorem NJ.run(hs:gR w S)(hf:co N S a G): ∀{rvs:List ResultVar} {ts:List Ty},NJ P N G rvs ts→ ∃vs,(rvs.mapM (BA a.tmps)).run P w= .ok vs w∧tP S ts vs∧vs.length=rvs.length
 |[],[],_=>⟨[],rfl,trivial,rfl⟩
 |rv::rvs,t::ts,⟨h1,h2⟩=>by
  obtain⟨v,g1,g2⟩:=h1 a w S hs hf
  obtain⟨vs,k1,k2,k3⟩:=NJ.run hs hf h2
  exact⟨v::vs,by simp [List.mapM_cons,g1,k1,Result.andThen],⟨g2,k2⟩,by simp [k3]⟩
variable{B:Nat→Prop}{fn:Func}
theorem dE{N:Nat}{w0:World}{S0:SH}{rvs:List ResultVar}{ts:List Ty}(hr:fn.results=rvs.toArray)(h1:Nat.beq rvs.length 1=false)(h:NJ P ⟨N,[]⟩ G rvs ts):
  AT ⟨P,⟨N,[]⟩,B,w0,S0,none⟩ (bodyPost P fn (Fo ⟨P,⟨N,[]⟩,B,w0,S0,none⟩ (tT ts))) .ret O G:=fun a w S st=>by
 obtain⟨vs,k1,k2,k3⟩:=h.run st.sat st.facts
 have hne: ¬vs.length=1:=by rw [k3];intro e;rw [e]at h1;cases h1
 refine⟨st.facts.defers,.tuple vs.toArray,?_,_,S,rfl,st.ext,st.sat,vs,rfl,k2⟩
 have e1:(fn.results.mapM (BA a.tmps)).run P w= .ok vs.toArray w:=by
  rw [hr,List.mapM_toArray,Sem.run_map,k1]
  rfl
 have e3:results fn a.tmps=((fn.results.mapM (BA a.tmps))>>=fun vs=>pure (if h:vs.size=1 then vs[0]else .tuple vs)):=rfl
 rw [e3,pW,e1]
 simp [Result.andThen,hne]

variable{cap:Nat}{cs:List Value}
theorem Mq(h:(tD (fz r) xs).p S v):(fz r).rc S [v] xs:=by
 obtain⟨cs,e,h2⟩:=h
 obtain⟨a,cap,e2,h3⟩:=h2
 subst e2
 rw [e]
 exact⟨a,cap,rfl,h3⟩
variable{base:Nat}{g:Option (Nat×Bool)}
section
variable{ty:TypeId}
theorem jF{r:Rp β}{get:β→Value}{x:β}{p:Operand}{l:Option Nat}(ti:TI E.P U 1 bytes false z)(hget:ka r off rV get)(hm:bx r T b x∈O)(hv:get x=aw l cap n)(hp:aE E.N G p (tV (aI b off))):
  bS E O G ⟨dst,.load U p,ty,pos,after,g⟩ (tV (aw l cap n)):=(br (q:=rV) ti rfl rfl hget hm hp).imp fun _ _ h=>by rw [←hv];exact(xx.1 h).1
theorem gD{q:Rp α}{r:Rp β}{get:β→Value}{x:β}{V:TypeId}{p:Operand}{l:Option Nat}(ti:TI E.P U 1 bytes false z)(hget:ka r off rV get)(hm:bx r T b x∈O)(hm2:eF q V l cap xs∈O)(hv:get x=aw l cap xs.length)(hp:aE E.N G p (tV (aI b off))):
  bS E O G ⟨dst,.load U p,ty,pos,after,g⟩ (tO q l cap xs):=fun a w S hs ho hf=>
 lz (fun _ _ ⟨v,S',h1,h2,h3,h4⟩=>⟨v,S',h1,h2,h3,h4,by
  have h5:v=aw l cap xs.length:=h4
  rw [h5]
  exact ld (((ho.ext0 h2).mem _ hm2).1)⟩) (jF (g:=g) (ty:=ty) (pos:=pos) (after:=after) (dst:=dst) ti hget hm hv hp a w S hs ho hf)
theorem bP{i o:Nat}{p:Operand}(hf:bZ E.P T i=some (off,sz))(h0:Nat.beq sz 0=false)(hp:aE E.N G p (tV (aI b o)))(he:o+off=n):bS E O G ⟨dst,.fieldAddr T p i,ty,pos,after,g⟩ (tV (aI b n)):=by
 subst he
 exact C2 hf h0 hp
theorem q4{q:Rp α}{r:Rp β}{x:β}{y:α}{p:Operand}(ti:TI E.P U sz bytes agg z)(hsz:q.sz=sz)(hag:q.agg=agg)(hag2:r.agg=agg)(hsz2:r.sz=sz)(hm:bx r T b x∈O)(hc: ∀w S cs,dp E.base E.B w S O→r.rc S cs x→q.rc S cs y)(hp:aE E.N G p (tV (aI b 0))):
  bS E O G ⟨dst,.load U p,ty,pos,after,g⟩ (tD q y):= .of_pure fun a w S _ ho hf=>by
 have h1:a.eval p=aI b 0:=hp S a hf
 obtain⟨⟨_,cur,h5,h6⟩,_⟩:=ho.mem _ hm
 have h7:=hc w S _ ho h6
 have hl:=q.len h7
 have h8:q.rc S ((cur.toList.drop 0).take q.sz) y:=by rw [uc,wb (by omega)];exact h7
 exact⟨_,by simp [execOp,h1,aI,Instr.loadAt,Instr.sureAddr,jl ti h5 hsz hag h8],_,rfl,h8⟩
theorem ju{q:Rp α}{V:TypeId}{l:Option Nat}(ho:dp base B w S O)(hm:eF q V l cap xs∈O):(fz q).rc S [aw l cap xs.length] xs:=Mq (ld (ho.mem _ hm).1)
end
def mY{α β γ:Type}(r:Rp α)(r' :Rp γ)(off:Nat)(q:Rp β)(x:α)(y:β)(x' :γ):Prop:= ∀S cs ds,r.rc S cs x→q.rc S ds y→r'.rc S (cs.take off++ds++cs.drop (off+q.sz)) x'
variable{set:α→β→α}
theorem HG{x:α}(h:gm r off q set):mY r r off q x y (set x y):=fun S cs ds h1 h2=>h S cs x ds y h1 h2
variable{r' :Rp γ}
theorem jb{x:α}{y:γ}(hs:r.sz=r'.sz):mY r r' 0 r' x y y:=fun S cs ds h1 h2=>by
 have hl:=r.len h1
 rw [List.take_zero,nF,As (by omega),Bb]
 exact h2
theorem EI{α' :Type}{p:Rp α}{p' :Rp α'}{x:α×β}{y:γ}{x1:α'}(h:mY p p' 0 u x.1 y x1)(hu:Nat.ble u.sz p.sz=true):mY (cI p q) (cI p' q) 0 u x y (x1,x.2):=fun S cs ds ⟨a,b,e,h1,h2⟩ hd=>by
 have hl:=p.len h1
 have hu' :=oq hu
 have h3:=h S a ds h1 hd
 subst e
 rw [List.take_zero,nF,qx,Kk (by omega),←rR]
 rw [List.take_zero,nF,qx]at h3
 exact⟨_,_,rfl,h3,h2⟩
theorem ed{β' :Type}{p:Rp α}{q' :Rp β'}{x:α×β}{y:γ}{off' :Nat}{x2:β'}(h:mY q q' off u x.2 y x2)(ho:off' =p.sz+off):mY (cI p q) (cI p q') off' u x y (x.1,x2):=fun S cs ds ⟨a,b,e,h1,h2⟩ hd=>by
 have hl:=p.len h1
 have h3:=h S b ds h2 hd
 subst e ho
 refine⟨a,_,?_,h1,h3⟩
 have e1:p.sz+off-a.length=off:=by omega
 have e2:p.sz+off+u.sz-a.length=off+u.sz:=by omega
 rw [List.take_append,List.drop_append,wb (by omega),As (by omega),e1,e2]
 simp
variable{x' :γ}
theorem rx{α' β' :Type}{p:Rp α}{p' :Rp α'}{f:β→α}{f' :β' →α'}{x:β}{x' :β'}{y:γ}{z:α'}(h:mY p p' off u (f x) y z)(e:f' x' =z):mY (pt p f) (pt p' f') off u x y x' :=fun S cs ds h1 h2=>by
 show p'.rc S _ (f' x')
 rw [e]
 exact h S cs ds h1 h2
section
variable{e:Exit}{ty:TypeId}
theorem dB{x:α}{p v:Operand}(ti:TI E.P U sz bytes agg z)(hsz:q.sz=sz)(hset:mY r r' off q x y x')(hoff:Nat.ble (off+q.sz) r.sz=true)(hp:aE E.N G p (tV (aI b off)))(hv:aE E.N G v (tD q y))(k:RG E ops Q rest (bx r' T b x' ::O) G):RG E ops Q (⟨none,.store U p v,ty,pos,after,none⟩::rest) (bx r T b x::O) G:= .of rfl fun a w S st=>by
 have h1:a.eval p=aI b off:=hp S a st.facts
 obtain⟨ds,h2,h3⟩:=hv S a st.facts
 obtain⟨⟨hno,cur,h5,h6⟩,_⟩:=st.own.1
 have hl:=r.len h6
 have hoff' :=oq hoff
 obtain⟨w',hr,e1,e2,e3,e4,e5,e6⟩:=iE ti hsz h3 h5 (off:=off) (by simp at hl;omega)
 have hrun:(execOp a.eval ⟨none,.store U p v,ty,pos,after,none⟩).run E.P w= .ok .skip w' :=by
  simp [execOp,h1,h2,Instr.storeAt,aI,Instr.sureAddr,hr]
 refine⟨fun c h=>(by cases h),?_⟩
 rw [hrun]
 obtain⟨g1,g2,g3⟩:=ly (O:=O) st.sat (bx r T b x) (bx r' T b x') st.own (fun _=>pm) (fun _=>pm) ⟨e1,e2,e3,e4.1,e4.2⟩ e6 ⟨hno,_,e5,by simpa using hset S _ _ h6 h3⟩ hno
 exact k _ _ S ⟨st.ext.step g1 (fun c hc=>st.own.1.2 c hc),g2,g3,st.facts⟩
theorem St.cvB{x:α}(h: ∀w S cs,dp E.base E.B w S O→r.rc S cs x→r'.rc S cs x')(st:St E (bx r T b x::O) G a w S):St E (bx r' T b x' ::O) G a w S:=
 st.own_map fun⟨⟨⟨h1,c,h2,h3⟩,h4⟩,h5,h6⟩=>⟨⟨⟨h1,c,h2,h _ _ _ h6 h3⟩,h4⟩,h5,h6⟩
theorem sq{x:α}(h: ∀w S cs,dp E.base E.B w S O→r.rc S cs x→r'.rc S cs x')(k:AT E Q e (bx r' T b x' ::O) G):AT E Q e (bx r T b x::O) G:=fun a w S st=>k a w S (st.cvB h)
end

section
variable{b:Frame}{k:List Item}{cs:List Frame}{F:Fence}
theorem np:step P (lone (b.atR a (.code (.scope c)::k)) cs w)= .next (lone (b.atR a (.code c:: .inScope c::k)) cs w):=
 step_lone_go (by simp [stepG,stepG.exec,Frame.atR])
theorem CW:step P (lone (b.atR a (.inScope c::k)) cs w)= .next (lone (b.atR a k) cs w):=
 step_lone_go (by simp [stepG,stepG.exec,Frame.atR])
theorem Hx(h:c.wpIn F n P (Exit.noGoto Q) a w):(Code.scope c).wpIn F n P Q a w:=by
 intro b k cs hro hb hr
 have h0:(lone (b.atR a (.code (.scope c)::k)) cs w).fenced P F:=fenced_calm hb hr rfl
 obtain⟨e,a₁,w₁,hq,harr⟩:=h b (.inScope c::k) cs hro hb hr
 cases e with
 |normal=>exact⟨.normal,a₁,w₁,hq,.head h0 np (StepsIn.trans harr (.one (fenced_calm hb hr rfl) CW))⟩
 |exit id=>
  have hx:exitTo id (.inScope c::k)=exitTo id k:=by simp [exitTo]
  exact⟨.exit id,a₁,w₁,hq,fun k' hk=> .head h0 np (harr.1 k' (by rw [hx];exact hk)),
   fun hr' hk=>let⟨k₁,h1,h2⟩:=harr.2 hr' (by rw [hx];exact hk);⟨k₁,h1,.head h0 np h2⟩⟩
 |goto l=>exact hq.elim
 |ret=>exact⟨_,a₁,w₁,hq,.of_steps (.one h0 np) harr⟩
 |panic ch=>exact⟨_,a₁,w₁,hq,.of_steps (.one h0 np) harr⟩
 |outgrown=>exact⟨_,a₁,w₁,hq,.of_steps (.one h0 np) harr⟩
end
section
theorem yI(h:CG E (Exit.noGoto Q) c O G):CG E Q (.scope c) O G:=fun a w S st=>Hx (h a w S st)
theorem yJ{l:Nat}(h:AT E Q .normal O G):CG E Q (.label l) O G:=fun a w S st=>wpIn_label (h a w S st)
theorem lG(h:AT E Q .ret O G):AT E (Exit.noGoto Q) .ret O G:=h
end

theorem Fb [Inhabited α]{m i:Nat}(h:i<m):ka (iS r m) (i*r.sz) r (fun x=>(x[i]?).getD default):=fun S cs x ⟨h1,h2⟩=>by
 have hi:x[i]? =some ((x[i]?).getD default):=by rw [pR (by omega)];rfl
 exact vG h2 hi
theorem QF [DecidableEq α] [Inhabited α]{m t e:Nat}(ht:P.underlying t=some (.array m e))(ti:TI P e sz bytes agg z)(hsz:r.sz=sz)(hag:r.agg=agg)(he:mN P e r n):mN P t (iS r m) (n+1):=fun S cs ds x y d w hx hy=>by
 obtain⟨i,zv,hi,hs,_⟩:=ti.get
 have hcell:P.cellsOf e=r.sz:=by unfold Program.cellsOf;rw [hi];simp [hs,hsz]
 have e1:(iS r m).val cs= .agg cs.toArray:=rfl
 have e2:(iS r m).val ds= .agg ds.toArray:=rfl
 rw [e1,e2,show d+(n+1)=(d+n)+1 from rfl,run_equalIn_array w (d+n) cs.toArray ds.toArray ht hi,List.range_eq_range',hcell]
 have key: ∀k j,j+k=m→(Op.eqItems (d+n) e r.sz cs.toArray ds.toArray (List.range' j k)).run P w= .ok (decide (x.drop j=y.drop j)) w:=by
  intro k
  induction k with
  |zero=>
   intro j hj
   rw [As (by have:=hx.1;omega),As (by have:=hy.1;omega)]
   rfl
  |succ k ih=>
   intro j hj
   have hjx:j<x.length:=by have:=hx.1;omega
   have hjy:j<y.length:=by have:=hy.1;omega
   have h1:=qc ti hsz hag (Fb (r:=r) (m:=m) (i:=j) (by omega)) hx w
   have h2:=qc ti hsz hag (Fb (r:=r) (m:=m) (i:=j) (by omega)) hy w
   have h3:=he S _ _ _ _ d w (Fb (r:=r) (m:=m) (i:=j) (by omega) S cs x hx) (Fb (r:=r) (m:=m) (i:=j) (by omega) S ds y hy)
   rw [List.range'_succ]
   unfold Op.eqItems
   simp only [pW,h1,h2,h3,qz]
   have ex:x.drop j=(x[j]?).getD default::x.drop (j+1):=by rw [pR hjx];exact CM hjx
   have ey:y.drop j=(y[j]?).getD default::y.drop (j+1):=by rw [pR hjy];exact CM hjy
   rw [ex,ey]
   by_cases hq:(x[j]?).getD default=(y[j]?).getD default
   ·simp only [hq,decide_true,wa,wL,qw]
    rw [ih (j+1) (by omega)]
    congr 1
    simp
   ·simp [hq]
 have:=key m 0 (by omega)
 simpa using this
variable{ys:List α}
section
variable{ty:TypeId}
theorem oJ{xs:List Operand}{m sz' bytes' :Nat}{agg' :Bool}{z' :List Value}(ht:E.P.underlying t=some (.array m T))(ti:TI E.P T sz bytes agg z)(hsz:r.sz=sz)(tj:TI E.P t sz' bytes' agg' z')(hz:z'.length=m*r.sz)(hm:m=ys.length)(hx:j6 E.N G xs (ys.map (tD r))):bS E O G ⟨dst,.build t (wG 0 xs).toArray,ty,pos,after,g⟩ (tD (iS r m) ys):=
 .of_pure fun a w S _ _ hF=>by
  obtain⟨zv,hzr,hzc⟩:=tj.zero w
  obtain⟨cs,hc,hfill⟩:=B8 ys (xs.map a.eval) 0 [] z' (hx.tys hF) (by simp) (by rw [hz,hm])
  subst hsz
  have hparts:((wG 0 xs).toArray.map fun(i,x)=>(i,a.eval x)).toList=Ae 0 (xs.map a.eval):=by simpa using zl a.eval 0 xs
  rw [nF,nF]at hfill
  refine⟨.agg cs.toArray,?_,cs,rfl,hm.symm,hc⟩
  simp only [execOp,Instr.build,pW,hzr,qz,hU ht,ti.sizeOf,hzc,hparts,hfill]
  simp
end

def uz(N:Nat):List Nat→List Oper→Bool
 |_,[]=>true
 |seen,o::rest=>match o.dst with
  |some d=>Nat.blt d N&& !(seen.any (Nat.beq d))&&uz N (d::seen) rest
  |none=>uz N seen rest
theorem zS{N:Nat}(l:List Oper): ∀(seen:List Nat),uz N seen l=true→
  (∀o:Oper,o∈l→ ∀d,o.dst=some d→d<N∧d∉seen)∧ ∀(i j:Nat) (o p:Oper) (d:Nat),l[i]? =some o→l[j]? =some p→o.dst=some d→p.dst=some d→i=j:=by
 induction l with
 |nil=>exact fun _ _=>⟨fun _ h=>(by cases h),fun _ _ _ _ _ h=>(by simp at h)⟩
 |cons o l ih=>
  intro seen h
  unfold uz at h
  cases hd:o.dst with
  |none=>
   rw [hd]at h
   obtain⟨h1,h2⟩:=ih seen h
   refine⟨fun q hq d hqd=>?_,fun i j p q d hi hj hp hq=>?_⟩
   ·rcases iC.1 hq with rfl|hq
    ·rw [hd]at hqd;cases hqd
    ·exact h1 q hq d hqd
   ·cases i with
    |zero=>simp at hi;subst hi;rw [hd]at hp;cases hp
    |succ i=>
     cases j with
     |zero=>simp at hj;subst hj;rw [hd]at hq;cases hq
     |succ j=>rw [h2 i j p q d (by simpa using hi) (by simpa using hj) hp hq]
  |some d0=>
   rw [hd]at h
   simp only [iP,sr,Ao]at h
   obtain⟨⟨g1,g2⟩,g3⟩:=h
   obtain⟨h1,h2⟩:=ih (d0::seen) g3
   have hns:d0∉seen:=fun hm=>by
    have:seen.any (Nat.beq d0)=true:=An.2 ⟨d0,hm,Nat.beq_refl d0⟩
    rw [this]at g2;cases g2
   refine⟨fun q hq d hqd=>?_,fun i j p q d hi hj hp hq=>?_⟩
   ·rcases iC.1 hq with rfl|hq
    ·rw [hd]at hqd;cases hqd;exact⟨g1,hns⟩
    ·obtain⟨k1,k2⟩:=h1 q hq d hqd
     exact⟨k1,fun hm=>k2 (kG _ hm)⟩
   ·cases i with
    |zero=>
     cases j with
     |zero=>rfl
     |succ j=>
      simp at hi;subst hi
      rw [hd]at hp;cases hp
      exact absurd (lV ..) (h1 q (sv (by simpa using hj)) d0 hq).2
    |succ i=>
     cases j with
     |zero=>
      simp at hj;subst hj
      rw [hd]at hq;cases hq
      exact absurd (lV ..) (h1 p (sv (by simpa using hi)) d0 hp).2
     |succ j=>rw [h2 i j p q d (by simpa using hi) (by simpa using hj) hp hq]
def Gv:List Oper→List Ty→kb→kb
 |o::l,t::ts,G=>match o.dst with
  |some d=>(d,t)::Gv l ts G
  |none=>Gv l ts G
 |_,_,G=>G
theorem DM(l:List Oper): ∀(ts:List Ty) (k:Nat) (t:Ty),ts.length=l.length→look (Gv l ts G) k=some t→
  (∃(j:Nat) (o:Oper),l[j]? =some o∧o.dst=some k∧ts[j]? =some t)∨(look G k=some t∧ ∀o:Oper,o∈l→o.dst≠some k):=by
 induction l with
 |nil=>
  intro ts k t hl h
  have:ts=[]:=xm (by simpa using hl)
  subst this
  exact .inr ⟨h,fun _ h=>(by cases h)⟩
 |cons o l ih=>
  intro ts k t hl h
  cases ts with
  |nil=>simp at hl
  |cons u ts=>
   unfold Gv at h
   have hl' :ts.length=l.length:=by simpa using hl
   have lift:((∃(j:Nat) (p:Oper),l[j]? =some p∧p.dst=some k∧ts[j]? =some t)∨(look G k=some t∧ ∀p:Oper,p∈l→p.dst≠some k))→o.dst≠some k→
     (∃(j:Nat) (p:Oper),(o::l)[j]? =some p∧p.dst=some k∧(u::ts)[j]? =some t)∨(look G k=some t∧ ∀p:Oper,p∈o::l→p.dst≠some k):=by
    rintro(⟨j,p,h1,h2,h3⟩|⟨h1,h2⟩) hne
    ·exact .inl ⟨j+1,p,by simpa using h1,h2,by simpa using h3⟩
    ·exact .inr ⟨h1,fun p hp=>(iC.1 hp).elim (fun e=>by subst e;exact hne) (h2 p)⟩
   cases hd:o.dst with
   |none=>
    rw [hd]at h
    exact lift (ih ts k t hl' h) (by rw [hd];exact fun e=>by cases e)
   |some d=>
    rw [hd]at h
    simp only at h
    unfold look at h
    by_cases hb:Nat.beq d k=true
    ·rw [hb]at h
     have:=m8 hb
     subst this
     have e:u=t:=by simpa using h
     subst e
     exact .inl ⟨0,o,rfl,hd,rfl⟩
    ·rw [yM]at hb
     rw [hb]at h
     refine lift (ih ts k t hl' h) ?_
     rw [hd]
     intro e
     have:d=k:=mO e
     subst this
     simp at hb
abbrev TS:=List Nat×(List OI→Ty)
def TS.at(p:TS)(σ:Nat→OI):Ty:=p.2 (p.1.map σ)
def tc(t:Ty):TS:=([],fun _=>t)
def LY(Ss:List ((Nat→OI)→List OE))(c:Nat)(σ:Nat→OI):List OE:=match Ss[c]? with|some f=>f σ|none=>[]
structure NS where
 slot:Nat
 ty:(Nat→OI)→Ty
 src:Option Nat
def NS.at(n:NS)(σ:Nat→OI):Nd:=⟨n.slot,n.ty σ,n.src⟩
def Ra(G:kb)(ts:List TS)(n:NS):Prop:=
 match n.src with
 |some j=> ∀σ,(ts[j]?).map (fun p=>p.at σ)=some (n.ty σ)
 |none=> ∀σ,look G n.slot=some (n.ty σ)
def ub(G:kb)(ts:List TS):List NS→Prop
 |[]=>True
 |n::l=>Ra G ts n∧ub G ts l
theorem ub.mem{ts:List TS}: ∀{l:List NS},ub G ts l→ ∀n∈l,Ra G ts n
 |_::_,⟨h,_⟩,_,.head _=>h
 |_::_,⟨_,h⟩,_,.tail _ hm=>ub.mem h _ hm
def t6(l:List NS)(σ:Nat→OI):kb:=iz (l.map (·.at σ))
def NW(ts:List TS)(σ:Nat→OI):List Ty:=ts.map fun p=>p.at σ
def Lz(L:List Oper)(es:List Bool)(i:Nat)(p:TS):Bool:=p.1.all fun k=>(es[k]?).getD false&&(Nat.beq k i||lQ L L.length i k)
def Sv(L:List Oper)(es:List Bool)(i lo hi:Nat):Bool:=
 Nat.ble lo (fm es es.length)&&(List.range es.length).all fun k=> !((es[k]?).getD false)||((Nat.ble lo (fm es k)||lQ L L.length i k)&&(Nat.blt (fm es k) hi||lQ L L.length k i))
def DS(E:En)(G:kb)(L:List Oper)(ts:List TS)(Ss:List ((Nat→OI)→List OE))(es0:List Bool):Nat→Nat→List Oper→List Bool→Prop
 |_,_,[],_=>True
 |i,c,o::rest,false::es=>(∃(needs:List NS) (t:TS) (lo hi:Nat),ts[i]? =some t∧ub G ts needs∧(needs.all fun n=>nc L o i (n.at fun _=>wc))=true∧d8 i o=true∧Lz L es0 i t=true∧Sv L es0 i lo hi=true∧o.dst.isSome=true∧
   ∀c σ,lo≤c→c≤hi→cc E (LY Ss c σ) L.toArray (t6 needs σ) o (t.at σ))∧DS E G L ts Ss es0 (i+1) c rest es
 |i,c,o::rest,true::es=>(∃(needs:List NS) (t:TS),ts[i]? =some t∧ub G ts needs∧(needs.all fun n=>nc L o i (n.at fun _=>wc))=true∧d8 i o=true∧Lz L es0 i t=true∧
   ∀σ,ot E L.toArray (LY Ss c σ) (t6 needs σ) o (fun x=>LY Ss (c+1) (Ht σ i x)) (fun x=>t.at (Ht σ i x)))∧DS E G L ts Ss es0 (i+1) (c+1) rest es
 |_,_,_::_,[]=>False
variable{L:List Oper}{Ss:List ((Nat→OI)→List OE)}{lo:Int}{σ:Nat→OI}
theorem DS.get{ts:List TS}{es0:List Bool}: ∀(r:List Oper) (es:List Bool) (k c:Nat),DS E G L ts Ss es0 k c r es→ ∀(j:Nat) (o:Oper),r[j]? =some o→
    ∃e,es[j]? =some e∧ ∃(needs:List NS) (t:TS),ts[k+j]? =some t∧ub G ts needs∧(needs.all fun n=>nc L o (k+j) (n.at fun _=>wc))=true∧d8 (k+j) o=true∧Lz L es0 (k+j) t=true∧
      (match e with
       |false=>o.dst.isSome=true∧ ∃lo hi,Sv L es0 (k+j) lo hi=true∧ ∀c σ,lo≤c→c≤hi→cc E (LY Ss c σ) L.toArray (t6 needs σ) o (t.at σ)
       |true=> ∀σ,ot E L.toArray (LY Ss (c+fm es j) σ) (t6 needs σ) o (fun x=>LY Ss (c+fm es j+1) (Ht σ (k+j) x)) (fun x=>t.at (Ht σ (k+j) x))):=by
  intro r
  induction r with
  |nil=>intro es k c _ j o h;simp at h
  |cons p r ih=>
    intro es k c h j o ho
    cases es with
    |nil=>exact h.elim
    |cons e es=>
      cases e with
      |false=>
        obtain⟨⟨needs,t,lo,hi,g1,g2,g3,g4,g5,g6,g7,g8⟩,h2⟩:=h
        cases j with
        |zero=>
          simp at ho;subst ho
          exact⟨false,rfl,needs,t,g1,g2,g3,g4,g5,g7,lo,hi,g6,g8⟩
        |succ j=>
          obtain⟨e',g1,g2⟩:=ih es (k+1) _ h2 j o (by simpa using ho)
          refine⟨e',by simpa using g1,?_⟩
          rw [show k+1+j=k+(j+1)from by omega]at g2
          have e1:c+fm (false::es) (j+1)=c+fm es j:=by simp [fm]
          rw [e1];exact g2
      |true=>
        obtain⟨h1,h2⟩:=h
        cases j with
        |zero=>
          simp at ho;subst ho
          exact⟨true,rfl,h1⟩
        |succ j=>
          obtain⟨e',g1,g2⟩:=ih es (k+1) _ h2 j o (by simpa using ho)
          refine⟨e',by simpa using g1,?_⟩
          rw [show k+1+j=k+(j+1)from by omega]at g2
          have e1:c+fm (true::es) (j+1)=c+1+fm es j:=by simp [fm];omega
          rw [e1];exact g2
structure Sa(E:En)(G:kb)(l:List Oper)(ts:List TS)(Ss:List ((Nat→OI)→List OE))(es:List Bool)(done:Array Bool)(a:Act)(w:World)(S:SH)(σ:Nat→OI)(c:Nat):Prop where
 ext:fM E.B E.w0 E.S0 w S
 sat:gR w S
 own:dp E.base E.B w S (LY Ss c σ)
 size:a.tmps.size=E.N.n
 defers:a.defers=E.N.ds
 dsz:done.size=l.length
 down: ∀j o,l[j]? =some o→done.getD j false=true→ ∀e∈o.after,Region.binds .any e=true→done.getD e.on false=true
 old: ∀k t,look G k=some t→(∀j o,l[j]? =some o→done.getD j false=true→o.dst≠some k)→t.p S (a.tmps.getD k undef)
 new: ∀j o d p,l[j]? =some o→done.getD j false=true→o.dst=some d→ts[j]? =some p→(p.at σ).p S (a.tmps.getD d undef)
 deps: ∀j p,done.getD j false=true→ts[j]? =some p→ ∀k∈p.1,done.getD k false=true
 chain: ∀k,es[k]? =some true→(done.getD k false=true↔fm es k<c)
variable{done:Array Bool}
section
variable{ts:List TS}
theorem Sa.need{c:Nat}(h:Sa E G L ts Ss es done a w S σ c){i:Nat}(hi:L[i]? =some o)(hun:done.getD i true=false)(hwait: ∀e∈o.after,Region.binds .any e=true→done.getD e.on false=true){needs:List NS}(h1:ub G ts needs)(h2:(needs.all fun n=>nc L o i (n.at fun _=>wc))=true):co E.N S a (t6 needs σ):=by
 have hlt:i<done.size:=by rw [h.dsz];exact(ox.1 hi).1
 have hun' :done.getD i false=false:=by
  simp [hlt]at hun ⊢;exact hun
 refine⟨h.size,h.defers,?_⟩
 have key: ∀n∈needs,(n.ty σ).p S (a.tmps.getD n.slot undef):=by
  intro n hn
  have hs:=kZ.1 h2 n hn
  have ho:=h1.mem n hn
  unfold nc NS.at at hs
  unfold Ra at ho
  cases hsrc:n.src with
  |some j=>
   rw [hsrc]at hs ho
   simp only [iP]at hs
   obtain⟨hs1,hs2⟩:=hs
   cases hj:L[j]? with
   |none=>rw [hj]at hs1;cases hs1
   |some p=>
    rw [hj]at hs1
    cases hd:p.dst with
    |none=>simp only [hd]at hs1;cases hs1
    |some d=>
     simp only [hd]at hs1
     have hd' :=m8 hs1
     subst hd'
     have hdone:done.getD j false=true:=by
      unfold zN at hs2
      obtain⟨e,he0,hb⟩:=An.1 hs2
      have he:e∈o.after:=by simpa using he0
      simp only [iP]at hb
      have:=hwait e he hb.2
      rwa [m8 hb.1]at this
     have hm:=ho σ
     cases hf:ts[j]? with
     |none=>rw [hf]at hm;simp at hm
     |some f=>
      rw [hf]at hm
      have e:f.at σ=n.ty σ:=by simpa using hm
      rw [←e]
      exact h.new j p n.slot f hj hdone hd hf
  |none=>
   rw [hsrc]at hs ho
   refine h.old _ _ (ho σ) fun j p hj hdone hd=>?_
   have:=kZ.1 hs p (sv hj)
   simp only [hd,Nat.beq_refl,wa,wI]at this
   unfold zN at this
   obtain⟨e,he0,hb⟩:=An.1 this
   have he:e∈p.after:=by simpa using he0
   simp only [iP]at hb
   have h3:=h.down j p hj hdone e he hb.2
   rw [m8 hb.1]at h3
   rw [h3]at hun'
   cases hun'
 clear h1 h2
 intro k t hk
 unfold t6 at hk
 induction needs with
 |nil=>simp [iz,look]at hk
 |cons n needs ih=>
  simp only [List.map_cons]at hk
  unfold iz look at hk
  by_cases hb:Nat.beq n.slot k=true
  ·have hb' :Nat.beq (n.at σ).slot k=true:=hb
   rw [hb']at hk
   have:=m8 hb
   subst this
   have h9:some (n.at σ).ty=some t:=by simpa using hk
   have e:n.ty σ=t:=mO h9
   rw [←e]
   exact key n (lV ..)
  ·rw [yM]at hb
   have hb' :Nat.beq (n.at σ).slot k=false:=hb
   rw [hb']at hk
   exact ih (fun m hm=>key m (kG _ hm)) hk
theorem Sa.step{σ' :Nat→OI}{c c' :Nat}(h:Sa E G L ts Ss es done a w S σ c){i:Nat}{p0:TS}{C:Nat→Prop}(hi:L[i]? =some o)(hdN: ∀d,o.dst=some d→d<E.N.n)(hs2: ∀d,o.dst=some d→ ∀j p,L[j]? =some p→done.getD j false=true→p.dst=some d→i=j)(hwait: ∀e∈o.after,Region.binds .any e=true→done.getD e.on false=true)(ht:ts[i]? =some p0)(hun:done.getD i true=false)(hdep: ∀k∈p0.1,k=i∨done.getD k false=true)(hext:fM C w S w' S')(hC: ∀b,C b→E.base≤b∨E.B b)(hsat:gR w' S')(hown:dp E.base E.B w' S' (LY Ss c' σ'))(hσ: ∀k,k≠i→σ' k=σ k)(hv:(p0.at σ').p S' v)(hch: ∀k,es[k]? =some true→((done.setIfInBounds i true).getD k false=true↔fm es k<c')):
  Sa E G L ts Ss es (done.setIfInBounds i true) (a.put o.dst v) w' S' σ' c' :=by
 have hlt:i<done.size:=by rw [h.dsz];exact(ox.1 hi).1
 have hset: ∀j,(done.setIfInBounds i true).getD j false=true→j=i∨done.getD j false=true:=fun j hj=>by
  by_cases hij:i=j
  ·exact .inl hij.symm
  ·rw [sw false hij]at hj;exact .inr hj
 have hseti:(done.setIfInBounds i true).getD i false=true:=by simp [hlt]
 have hun' :done.getD i false=false:=by simp [hlt]at hun ⊢;exact hun
 have hput: ∀k,(∀d,o.dst=some d→d≠k)→(a.put o.dst v).tmps.getD k undef=a.tmps.getD k undef:=fun k hk=>by
  cases hd:o.dst with
  |none=>rfl
  |some d=>
   have hda:d<a.tmps.size:=by rw [h.size];exact hdN d hd
   rw [o6 hda,dd (hk d hd)]
 refine⟨h.ext.step hext hC,hsat,hown,?_,?_,by simp [h.dsz],fun j p hj hdone e he hb=>?_,fun k u hk hno=>?_,fun j p d' u hj hdone hd' hu=>?_,fun j u hj hu k hk=>?_,hch⟩
 ·cases o.dst with
  |none=>exact h.size
  |some d=>simp [Act.put,h.size]
 ·cases o.dst with
  |none=>exact h.defers
  |some d=>exact h.defers
 ·rcases hset j hdone with rfl|hj'
  ·rw [hi]at hj
   have:o=p:=by simpa using hj
   subst this
   exact sU (hwait e he hb)
  ·exact sU (h.down j p hj hj' e he hb)
 ·rw [hput k fun d hd e=>hno i o hi hseti (by rw [hd,e])]
  exact u.mono hext.keep (h.old k u hk fun j p hj hdone=>hno j p hj (sU hdone))
 ·by_cases hij:j=i
  ·subst hij
   rw [hi]at hj
   have:o=p:=by simpa using hj
   subst this
   have hda:d' <a.tmps.size:=by rw [h.size];exact hdN d' hd'
   rw [hd',o6 hda,dy rfl]
   rw [ht]at hu
   have:p0=u:=by simpa using hu
   subst this
   exact hv
  ·have hj' :=(hset j hdone).resolve_left hij
   rw [hput d' fun d hd e=>by subst e;exact hij (hs2 d hd j p hj hj' hd').symm]
   have e1:u.at σ' =u.at σ:=congrArg u.2 (List.map_congr_left fun k hk=>hσ k fun e=>by
     subst e
     rw [h.deps j u hj' hu k hk]at hun';cases hun')
   rw [e1]
   exact Ty.mono _ hext.keep (h.new j p d' u hj hj' hd' hu)
 ·rcases hset j hj with rfl|hj'
  ·rw [ht]at hu
   have:p0=u:=by simpa using hu
   subst this
   rcases hdep k hk with rfl|h'
   ·exact hseti
   ·exact sU h'
  ·exact sU (h.deps j u hj' hu k hk)
end
theorem FX{l t:List Oper}{ts:List TS}(hsl:uz E.N.n [] l=true)(hlen:ts.length=l.length)(hesl:es.length=l.length)(hd:DS E G (l++t) ts Ss es 0 0 l es)(hch:IF (l++t) es=true)(ht:wp (l++t) l.length t.length=true)(hQ: ∀a w S σ,St E (LY Ss (fm es es.length) σ) (Gv l (NW ts σ) G) a w S→wpListIn (fw E.r) 0 E.P (l++t).toArray Q t a w):
  ∀(fuel:Nat) (done:Array Bool) (a:Act) (w:World) (S:SH) (σ:Nat→OI) (c:Nat),jV done=fuel→(∀j,l.length≤j→done.getD j false=false)→c≤fm es es.length→Sa E G (l++t) ts Ss es done a w S σ c→wpAnyIn (fw E.r) 0 E.P .any (l++t).toArray Q fuel done a w:=by
 have hL1: ∀i o,i<l.length→(l++t)[i]? =some o→l[i]? =some o:=fun i o hi h=>by rwa [yO hi]at h
 have hL2: ∀i o,l[i]? =some o→(l++t)[i]? =some o:=fun i o h=>by rw [yO (ox.1 h).1];exact h
 have htail: ∀m o,l.length≤m→(l++t)[m]? =some o→tL (l++t) m=true∧d8 m o=true:=fun m o hm ho=>by
  have hml:m<(l++t).length:=(ox.1 ho).1
  rw [mq]at hml
  unfold wp at ht
  have:=kZ.1 ht (m-l.length) (by simp;omega)
  rw [show l.length+(m-l.length)=m from by omega,ho]at this
  simp only [iP]at this
  exact⟨this.1,this.2.1⟩
 have hget:=fun i o (hi:l[i]? =some o)=>DS.get l es 0 0 hd i o hi
 have hedge: ∀i o,(l++t)[i]? =some o→d8 i o=true:=fun i o hi=>by
  rcases mT i l.length with h|h
  ·obtain⟨_,_,_,_,_,_,_,h,_⟩:=hget i o (hL1 i o h hi)
   simpa using h
  ·exact(htail i o h hi).2
 obtain⟨hs1,hs2⟩:=zS l [] hsl
 have fin: ∀fuel done a w S σ c,jV done=fuel→(∀j,l.length≤j→done.getD j false=false)→c≤fm es es.length→Sa E G (l++t) ts Ss es done a w S σ c→(∀i,i<l.length→done.getD i false=true)→wpAnyIn (fw E.r) 0 E.P .any (l++t).toArray Q fuel done a w:=by
  intro fuel done a w S σ c hu hfree hcle h hall
  have hcc:c=fm es es.length:=by
   rcases mT c (fm es es.length)with hlt|hge
   ·obtain⟨i,h1,h2,h3⟩:=tN hlt
    have:=(h.chain i h2).1 (hall i (by omega))
    omega
   ·omega
  subst hcc
  refine wN (n:=l.length) (fun m o hm ho=>(htail m o hm ho).1) hedge t l.length done fuel a w (gp _) (by simp) h.dsz (fun j hj=>⟨fun hjd=>?_,fun hlt=>hall j hlt⟩) hu
   (hQ a w S σ ⟨h.ext,h.sat,h.own,h.size,h.defers,fun j u hj=>?_⟩)
  ·rcases mT j l.length with h' |h'
   ·exact h'
   ·rw [hfree j h']at hjd;cases hjd
  ·rcases DM l (NW ts σ) j u (by unfold NW;rw [List.length_map];exact hlen) hj with⟨i,o,h1,h2,h3⟩|⟨h1,h2⟩
   ·unfold NW at h3
    rw [CI]at h3
    cases hf:ts[i]? with
    |none=>rw [hf]at h3;simp at h3
    |some f=>
     rw [hf]at h3
     have e:f.at σ=u:=by simpa using h3
     rw [←e]
     exact h.new i o j f (hL2 i o h1) (hall i (ox.1 h1).1) h2 hf
   ·refine h.old j u h1 fun i o ho hdn=>?_
    rcases mT i l.length with h' |h'
    ·exact h2 o (sv (hL1 i o h' ho))
    ·rw [hfree i h']at hdn;cases hdn
 have lower: ∀done a w S σ c i,(∀j,l.length≤j→done.getD j false=false)→Sa E G (l++t) ts Ss es done a w S σ c→i∈Region.ready .any (l++t).toArray done→l.length≤i→ ∀j,j<l.length→done.getD j false=true:=by
  intro done a w S σ c i hfree h hi hge j hj
  obtain⟨hun,p,hp,hwait⟩:=qA.1 hi
  have hp' :(l++t)[i]? =some p:=by simpa using hp
  have hcov:=(htail i p hge hp').1
  unfold tL at hcov
  have hre:=kZ.1 hcov j (by simp;omega)
  exact fy h.down _ i j (fun q hq e he hb=>by
   have:q=p:=by rw [hp']at hq;simpa using hq.symm
   subst this
   exact hwait e he hb) hre
 have hchain: ∀i j,j<i→es[i]? =some true→es[j]? =some true→lQ (l++t) (l++t).length i j=true:=fun i j hij h1 h2=>by
  unfold IF at hch
  have hil:i<es.length:=(ox.1 h1).1
  have:=kZ.1 (kZ.1 hch i (by simpa using hil)) j (by simpa using hij)
  rw [h1,h2]at this
  simpa using this
 intro fuel
 induction fuel with
 |zero=>
  intro done a w S σ c hu hfree hcle h
  exact fin 0 done a w S σ c hu hfree hcle h fun i hi=>rs hu (by rw [h.dsz,mq];omega)
 |succ fuel ih=>
  intro done a w S σ c hu hfree hcle h
  by_cases hall: ∀i,i<l.length→done.getD i false=true
  ·exact fin _ done a w S σ c hu hfree hcle h hall
  have hready0: ∀m i,i<m→i<l.length→Region.ready .any (l++t).toArray done=[]→done.getD i false=true:=by
   intro m
   induction m with
   |zero=>intro i h;omega
   |succ m ihm=>
    intro i him hil hr
    have his:i<done.size:=by rw [h.dsz,mq];omega
    by_cases hdn:done.getD i true=true
    ·rw [←mA his];exact hdn
    ·exfalso
     obtain⟨o,ho⟩: ∃o,(l++t)[i]? =some o:=⟨l[i],hL2 i _ (pR hil)⟩
     have hmem:i∈Region.ready .any (l++t).toArray done:=by
      rw [qA]
      refine⟨by simpa using hdn,o,by simpa using ho,fun e he hb=>?_⟩
      have:=hedge i o ho
      unfold d8 at this
      have:=kZ.1 this e (by simpa using he)
      simp only [hb,wa,wI,sr]at this
      exact ihm e.on (by omega) (by omega) hr
     rw [hr]at hmem;cases hmem
  refine⟨fun hr=>absurd (fun i hi=>hready0 (i+1) i (by omega) hi hr) hall,fun i hi=>?_⟩
  have hil:i<l.length:=by
   rcases mT i l.length with h' |h'
   ·exact h'
   ·exact absurd (lower done a w S σ c i hfree h hi h') hall
  obtain⟨hun,o,ho,hwait⟩:=qA.1 hi
  have ho' :(l++t)[i]? =some o:=by simpa using ho
  have hol:=hL1 i o hil ho'
  obtain⟨e,he,needs,u,h1,h2,h3,_,h4,h5⟩:=hget i o hol
  rw [qx]at h1 h3 h4
  have hF:=h.need ho' hun hwait h2 h3
  have his:i<done.size:=by rw [h.dsz,mq];omega
  have hun' :done.getD i false=false:=by rw [←mA his];exact hun
  have hu' :jV (done.setIfInBounds i true)=fuel:=by have:=oB hun;omega
  have huq: ∀d,o.dst=some d→ ∀j p,(l++t)[j]? =some p→done.getD j false=true→p.dst=some d→i=j:=fun d hdd j p hj hjd hpd=>by
   rcases mT j l.length with h' |h'
   ·exact hs2 i j o p d hol (hL1 j p h' hj) hdd hpd
   ·rw [hfree j h']at hjd;cases hjd
  have hfree' : ∀j,l.length≤j→(done.setIfInBounds i true).getD j false=false:=fun j hj=>by
   rw [sw false (by omega)];exact hfree j hj
  have hbl:E.base≤w.heap.size:=h.ext.size
  have hwaits: ∀q,(l++t)[i]? =some q→ ∀e∈q.after,Region.binds .any e=true→done.getD e.on false=true:=fun q hq e he hb=>by
   have:q=o:=by rw [ho']at hq;simpa using hq.symm
   subst this
   exact hwait e he hb
  have hdpp: ∀k∈u.1,k=i∨done.getD k false=true:=fun k hk=>by
   have:=kZ.1 h4 k hk
   simp only [iP,zJ]at this
   rcases this.2 with hb|hb
   ·exact .inl (m8 hb)
   ·exact .inr (fy h.down _ i k hwaits hb)
  have hdNN: ∀d,o.dst=some d→d<E.N.n:=fun d hd=>(hs1 o (sv hol) d hd).1
  unfold wpOpIn
  rw [ho]
  show if _ then _ else _
  cases e with
  |false=>
   simp only at h5
   obtain⟨hdS,lo,hi',hwin,h5⟩:=h5
   rw [qx]at hwin
   obtain⟨d,hdd⟩:=Option.isSome_iff_exists.1 hdS
   have hdN:=(hs1 o (sv hol) d hdd).1
   unfold Sv at hwin
   rw [iP]at hwin
   obtain⟨hw1,hw2⟩:=hwin
   have hw1' :=oq hw1
   have hwk: ∀k,es[k]? =some true→(Nat.ble lo (fm es k)=true∨lQ (l++t) (l++t).length i k=true)∧(Nat.blt (fm es k) hi' =true∨lQ (l++t) (l++t).length k i=true):=fun k hk=>by
    have hkl:k<es.length:=(ox.1 hk).1
    have:=kZ.1 hw2 k (by simpa using hkl)
    rw [hk]at this
    simpa using this
   have hlo:lo≤c:=by
    rcases mT c lo with hlt|hge
    ·exfalso
     obtain⟨k,hk1,hk2,hk3⟩:=tN (es:=es) (c:=c) (k:=es.length) (by omega)
     rcases(hwk k hk2).1 with hb|hb
     ·have:=oq hb;omega
     ·have:=(h.chain k hk2).1 (fy h.down _ i k hwaits hb)
      omega
    ·exact hge
   have hhi:c≤hi' :=by
    rcases mT hi' c with hlt|hge
    ·exfalso
     obtain⟨k,hk1,hk2,hk3⟩:=tN (es:=es) (c:=hi') (k:=es.length) (by omega)
     rcases(hwk k hk2).2 with hb|hb
     ·simp only [sr]at hb;omega
     ·have hkd:done.getD k false=true:=(h.chain k hk2).2 (by omega)
      have:=fy h.down _ k i (fun q hq e he hb=>h.down k q hq hkd e he hb) hb
      rw [this]at hun';cases hun'
    ·exact hge
   have h6:=h5 c σ hlo hhi a w S h.sat h.own hF
   have hch' : ∀k,es[k]? =some true→((done.setIfInBounds i true).getD k false=true↔fm es k<c):=fun k hk=>by
    have hne:i≠k:=fun e=>by subst e;rw [he]at hk;cases hk
    rw [sw false hne];exact h.chain k hk
   by_cases hw:Region.wanted o (yielded (l++t).toArray a.tmps)=true
   ·rw [dy hw]at h6 ⊢
    refine jK (fun a' w' ⟨v,S',ha,hx,hs,hv⟩=>?_) h6
    subst ha
    exact ih _ _ _ S' _ c hu' hfree' hcle (h.step ho' hdNN huq hwait h1 hun hdpp hx (fun _ hb=>hb.elim) hs (h.own.ext0 hx) (fun _ _=>rfl) hv hch')
   ·rw [dd hw]at h6 ⊢
    exact⟨fun _ _=>trivial,ih _ _ _ S _ c hu' hfree' hcle (h.step ho' hdNN huq hwait h1 hun hdpp (fR om _ _) (fun _ hb=>hb.elim) h.sat h.own (fun _ _=>rfl) h6 hch')⟩
  |true=>
   simp only [qx]at h5
   -- it is the next one of the chain
   have hca:fm es i=c:=by
    have hn: ¬fm es i<c:=fun hlt=>by rw [(h.chain i he).2 hlt]at hun';cases hun'
    rcases mT c (fm es i)with hlt|hge
    ·exfalso
     obtain⟨k,hk1,hk2,hk3⟩:=tN hlt
     have hkd:done.getD k false=true:=fy h.down _ i k hwaits (hchain i k hk1 he hk2)
     have:=(h.chain k hk2).1 hkd
     omega
    ·omega
   subst hca
   have h6:=h5 σ a w S h.sat h.own hF hbl
   have hch' : ∀k,es[k]? =some true→((done.setIfInBounds i true).getD k false=true↔fm es k<fm es i+1):=fun k hk=>by
    by_cases hik:i=k
    ·subst hik
     constructor
     ·intro _;omega
     ·intro _;simp [his]
    ·rw [sw false hik,h.chain k hk]
     constructor
     ·intro h;omega
     ·intro hlt
      rcases mT i k with hlk|hlk
      ·have:=Cq hlk he;omega
      ·exact Cq (by omega) hk
   have hcle' :fm es i+1≤fm es es.length:=Cq (by omega) he
   by_cases hw:Region.wanted o (yielded (l++t).toArray a.tmps)=true
   ·rw [dy hw]at h6 ⊢
    refine jK (fun a' w' ⟨v,S',x,ha,hx,hs,hown,hv⟩=>?_) h6
    subst ha
    exact ih _ _ _ S' _ _ hu' hfree' hcle' (h.step ho' hdNN huq hwait h1 hun hdpp hx (fun b ⟨f,hf,hb⟩=>(dp.mem h.own f hf).2 b hb) hs hown (fun k hk=>Bn σ x hk) hv hch')
   ·rw [dd hw]at h6 ⊢
    obtain⟨x,hown,hv⟩:=h6
    exact⟨fun _ _=>trivial,ih _ _ _ S _ _ hu' hfree' hcle' (h.step ho' hdNN huq hwait h1 hun hdpp (fR om _ _) (fun _ hb=>hb.elim) h.sat hown (fun k hk=>Bn σ x hk) hv hch')⟩
theorem oe{id:Nat}(m:Nat)(ts:List TS)(es:List Bool)(Ss:List ((Nat→OI)→List OE))(hO:Ss[0]? =some fun _=>O)(hm:E.P.follows .mixedOrders=true)(hsl:uz E.N.n [] (L.take m)=true)(hlen:ts.length=(L.take m).length)(hesl:es.length=(L.take m).length)(hch:IF L es=true)(ht:wp L (L.take m).length (L.drop m).length=true)(hd:DS E G L ts Ss es 0 0 (L.take m) es)(k: ∀σ:Nat→OI,RG E L.toArray Q (L.drop m) (LY Ss (fm es es.length) σ) (Gv (L.take m) (NW ts σ) G)):CG E Q (.region id L.toArray true) O G:=fun a w S st=>by
 have hL:L=L.take m++L.drop m:=(sY m L).symm
 generalize L.take m=l at hL hsl hlen hesl ht hd k
 generalize L.drop m=t at hL ht k
 subst hL
 refine wpIn_region_any hm ?_
 obtain⟨he,hs⟩:=vq (w:=w) st.sat
 have hO0:LY Ss 0 (fun _=>wc)=O:=by unfold LY;rw [hO]
 refine FX hsl hlen hesl hd hch ht (fun a w S σ st=>k σ a w S st) _ _ _ _ S (fun _=>wc) 0 ?_ (fun j _=>?_) (jJ _)
  ⟨st.ext.step0 he,hs,by rw [hO0];exact st.own.ext0 he,st.facts.size,st.facts.defers,by simp,fun j o hj hdone=>?_,fun k t hk _=>st.facts.at_ k t hk,fun j o d t hj hdone=>?_,fun j p hdone=>?_,fun k _=>⟨fun hdone=>?_,fun h=>(by omega)⟩⟩
 ·unfold jV;rw [IW,IT];simp
 ·simp [wM];split<;>rfl
 ·simp [wM]at hdone
  split at hdone<;>simp at hdone
 ·simp [wM]at hdone
  split at hdone<;>simp at hdone
 ·simp [wM]at hdone
  split at hdone<;>simp at hdone
 ·simp [wM]at hdone
  split at hdone<;>simp at hdone
theorem yR{p:Nat→(Nat→OI)→Prop}{lo:Nat}(h: ∀σ,p lo σ): ∀c σ,lo≤c→c≤lo→p c σ:=fun c σ h1 h2=>by
 have:c=lo:=by omega
 subst this;exact h σ
theorem Ks{p:Nat→(Nat→OI)→Prop}{lo hi:Nat}(h: ∀σ,p lo σ)(k: ∀c σ,lo+1≤c→c≤hi→p c σ): ∀c σ,lo≤c→c≤hi→p c σ:=fun c σ h1 h2=>by
 by_cases e:c=lo
 ·subst e;exact h σ
 ·exact k c σ (by omega) h2
variable{post:OI→List OE}
theorem Ci{op:Op}{ty:TypeId}(hnd: ∀c,op≠ .defer c)(h: ∀a w S,gR w S→dp E.base E.B w S O→co E.N S a G→E.base≤w.heap.size→ ∃w' S' x,(execOp a.eval ⟨none,op,ty,pos,after,g⟩).run E.P w= .ok .skip w' ∧fM (FI O) w S w' S' ∧gR w' S' ∧dp E.base E.B w' S' (post x)):
  EffOK E O G ⟨none,op,ty,pos,after,g⟩ post (fun _=>Bq):=fun a w S hs ho hf hb=>by
 obtain⟨w',S',x,h1,h2,h3,h4⟩:=h a w S hs ho hf hb
 refine⟨hnd,?_⟩
 rw [h1]
 exact⟨undef,S',x,rfl,h2,h3,h4,trivial⟩

abbrev HL:=List (Nat×Value)
def xW:HL→Nat→Option Value
 |[],_=>none
 |p::hs,o=>bif Nat.beq p.1 o then some p.2 else xW hs o
theorem qq: ∀{hs:HL} {o:Nat} {v:Value},xW hs o=some v→(o,v)∈hs
 |[],_,_,h=>by cases h
 |p::hs,o,v,h=>by
  unfold xW at h
  by_cases hb:Nat.beq p.1 o=true
  ·rw [hb]at h
   have e1:=m8 hb
   have e2:p.2=v:=mO h
   subst e1 e2
   exact lV ..
  ·rw [yM]at hb
   rw [hb]at h
   exact kG _ (qq h)
def rH{α:Type}(r:Rp α)(hs:HL):Rp α where
 sz:=r.sz
 agg:=r.agg
 rc:=fun S cs x=>r.rc S cs x∧ ∀p∈hs,cs[p.1]? =some p.2
 mono:=fun h k=>⟨r.mono h k.1,k.2⟩
 len:=fun k=>r.len k.1
 one:=fun k=>r.one k.1
 sc:=r.sc
theorem gk{hs:HL}{get:α→β}(h:ka r off q get):ka (rH r hs) off q get:=fun S cs x k=>h S cs x k.1
theorem LD(h:cs[off]? =some v):(cs.drop off).take 1=[v]:=by
 have hlt:=(ox.1 h).1
 rw [CM hlt,(ox.1 h).2]
 rfl
theorem XO{hs:HL}(h:xW hs off=some v):ka (rH r hs) off rV (fun _=>v):=fun S cs x k=>by
 have h1:=k.2 _ (qq h)
 exact⟨LD h1,r.one k.1 v (sv h1)⟩
def HZ(z:List Value):HL→Prop
 |[]=>True
 |p::hs=>z[p.1]? =some p.2∧HZ z hs
theorem HZ.all: ∀{hs:HL},HZ z hs→ ∀p∈hs,z[p.1]? =some p.2
 |_::_,⟨h,_⟩,_,.head _=>h
 |_::_,⟨_,h⟩,_,.tail _ hm=>HZ.all h _ hm
theorem zH{x:α}{hs:HL}(h: ∀S,r.rc S z x)(k:HZ z hs): ∀S,(rH r hs).rc S z x:=fun S=>⟨h S,k.all⟩
def S5(hs:HL)(off sz:Nat):Bool:=hs.all fun p=>Nat.blt p.1 off||Nat.ble (off+sz) p.1
def T7(hs:HL)(off sz:Nat)(v:Option Value):HL→Prop
 |[]=>True
 |p::l=>((v=some p.2∧p.1=off∧sz=1)∨(xW hs p.1=some p.2∧(Nat.blt p.1 off||Nat.ble (off+sz) p.1)=true))∧T7 hs off sz v l
theorem T7.all{hs:HL}{v:Option Value}: ∀{l:HL},T7 hs off sz v l→ ∀p∈l,(v=some p.2∧p.1=off∧sz=1)∨(xW hs p.1=some p.2∧(Nat.blt p.1 off||Nat.ble (off+sz) p.1)=true)
 |_::_,⟨h,_⟩,_,.head _=>h
 |_::_,⟨_,h⟩,_,.tail _ hm=>T7.all h _ hm
theorem rO{ds:List Value}{k:Nat}(hl:ds.length=sz)(hoff:off+sz≤cs.length)(h:(Nat.blt k off||Nat.ble (off+sz) k)=true):(cs.take off++ds++cs.drop (off+sz))[k]? =cs[k]? :=by
 simp only [zJ,sr,Nat.ble_eq]at h
 have ht:(cs.take off).length=off:=by simp;omega
 rcases h with h|h
 ·rw [yO (by simp;omega),yO (by omega),yN h]
 ·rw [Kj (by simp;omega),ul]
  congr 1
  simp only [mq,ht,hl];omega
theorem Nt{ds:List Value}(hd:ds=[v])(hoff:off+1≤cs.length):(cs.take off++ds++cs.drop (off+1))[off]? =some v:=by
 subst hd
 have ht:(cs.take off).length=off:=by simp;omega
 rw [yO (by simp;omega),Kj (by omega),ht,Nat.sub_self]
 rfl
theorem uA{hs hs' :HL}{x:α}(h:gm r off q set)(hk:T7 hs off q.sz none hs')(hoff:Nat.ble (off+q.sz) r.sz=true):mY (rH r hs) (rH r hs') off q x y (set x y):=fun S cs ds h1 h2=>by
 refine⟨h S cs x ds y h1.1 h2,fun p hp=>?_⟩
 rcases hk.all p hp with⟨e,_⟩|⟨g1,g2⟩
 ·cases e
 ·have hl:=r.len h1.1
  rw [rO (q.len h2) (by have:=oq hoff;omega) g2]
  exact h1.2 _ (qq g1)
theorem Ux{hs:HL}(h:gm r off q set)(hk:S5 hs off q.sz=true)(hoff:Nat.ble (off+q.sz) r.sz=true):gm (rH r hs) off q set:=fun S cs x ds y h1 h2=>by
 refine⟨h S cs x ds y h1.1 h2,fun p hp=>?_⟩
 have hl:=r.len h1.1
 rw [rO (q.len h2) (by have:=oq hoff;omega) (kZ.1 hk p hp)]
 exact h1.2 _ hp
section
variable{e:Exit}
section
variable{ty:TypeId}
theorem mJ{op:Op}{t:OI→Ty}(h:EffOK E O G ⟨none,op,ty,pos,after,none⟩ post t)(k: ∀x,RG E ops Q rest (post x) G):RG E ops Q (⟨none,op,ty,pos,after,none⟩::rest) O G:= .of rfl fun a w S st=>
 lz (fun a' w' ⟨v,S',x,ha,hx,hs,ho,hv⟩=>by
  subst ha
  exact k x _ _ S' ⟨st.ext.step hx fun b ⟨f,hf,hb⟩=>(dp.mem st.own f hf).2 b hb,hs,ho,st.facts.mono hx.keep⟩) (h a w S st.sat st.own st.facts st.base_le)
theorem f6{x:α}{p v:Operand}(ti:TI E.P U sz bytes agg z)(hsz:q.sz=sz)(hset:mY r r' off q x y x')(hoff:Nat.ble (off+q.sz) r.sz=true)(hp:aE E.N G p (tV (aI b off)))(hv:aE E.N G v (tD q y)):EffOK E (bx r T b x::O) G ⟨none,.store U p v,ty,pos,after,g⟩ (fun _=>bx r' T b x' ::O) (fun _=>Bq):=Ci (fun _ h=>(by cases h)) fun a w S hs ho hf hb=>by
 have h1:a.eval p=aI b off:=hp S a hf
 obtain⟨ds,h2,h3⟩:=hv S a hf
 obtain⟨⟨hno,cur,h5,h6⟩,_⟩:=ho.1
 have hl:=r.len h6
 have hoff' :=oq hoff
 obtain⟨w',hr,e1,e2,e3,e4,e5,e6⟩:=iE ti hsz h3 h5 (off:=off) (by simp at hl;omega)
 have hrun:(execOp a.eval ⟨none,.store U p v,ty,pos,after,g⟩).run E.P w= .ok .skip w' :=by
  simp [execOp,h1,h2,Instr.storeAt,aI,Instr.sureAddr,hr]
 obtain⟨g1,g2,g3⟩:=ly (O:=O) hs (bx r T b x) (bx r' T b x') ho (fun _=>pm) (fun _=>pm) ⟨e1,e2,e3,e4.1,e4.2⟩ e6 ⟨hno,_,e5,by simpa using hset S _ _ h6 h3⟩ hno
 exact⟨w',S,wc,hrun,g1.more fun k hk=>⟨_,lV ..,hk⟩,g2,g3⟩
theorem Ch{hs hs' :HL}{x:α}{u:Value}{p v:Operand}(ti:TI E.P U 1 bytes false z)(hsz:q.sz=1)(hag:q.agg=false)(hset:gm r off q set)(hoff:Nat.ble (off+1) r.sz=true)(hk:T7 hs off 1 (some u) hs')(hp:aE E.N G p (tV (aI b off)))(hv:aE E.N G v (tD q y))(hu:aE E.N G v (tV u)):EffOK E (bx (rH r hs) T b x::O) G ⟨none,.store U p v,ty,pos,after,g⟩ (fun _=>bx (rH r hs') T b (set x y)::O) (fun _=>Bq):=Ci (fun _ h=>(by cases h)) fun a w S hsat ho hf hb=>by
 have h1:a.eval p=aI b off:=hp S a hf
 obtain⟨ds,h2,h3⟩:=hv S a hf
 have hu' :a.eval v=u:=hu S a hf
 obtain⟨⟨hno,cur,h5,h6⟩,_⟩:=ho.1
 have hl:=r.len h6.1
 have hoff' :=oq hoff
 have hdl:=q.len h3
 have hds:ds=[u]:=by
  obtain⟨d,hd⟩:=List.length_eq_one_iff.1 (by rw [hdl,hsz]:ds.length=1)
  subst hd
  have e1:q.val [d]=d:=by simp [Rp.val,hag]
  rw [h2,e1]at hu'
  rw [hu']
 obtain⟨w',hr,e1,e2,e3,e4,e5,e6⟩:=iE ti hsz h3 h5 (off:=off) (by simp at hl;omega)
 have hrun:(execOp a.eval ⟨none,.store U p v,ty,pos,after,g⟩).run E.P w= .ok .skip w' :=by
  simp [execOp,h1,h2,Instr.storeAt,aI,Instr.sureAddr,hr]
 rw [hsz]at e5
 have hnew:(rH r hs').rc S (cur.toList.take off++ds++cur.toList.drop (off+1)) (set x y):=by
  have h7:=hset S _ _ _ _ h6.1 h3
  rw [hsz]at h7
  refine⟨h7,fun p hp=>?_⟩
  rcases hk.all p hp with⟨f1,f2,_⟩|⟨f1,f2⟩
  ·rw [f2]
   exact Nt (by rw [hds,mO f1]) (by omega)
  ·rw [rO (by rw [hdl,hsz]) (by omega) f2]
   exact h6.2 _ (qq f1)
 obtain⟨g1,g2,g3⟩:=ly (O:=O) hsat (bx (rH r hs) T b x) (bx (rH r hs') T b (set x y)) ho (fun _=>pm) (fun _=>pm) ⟨e1,e2,e3,e4.1,e4.2⟩ e6 ⟨hno,_,e5,by simpa using hnew⟩ hno
 exact⟨w',S,wc,hrun,g1.more fun k hk=>⟨_,lV ..,hk⟩,g2,g3⟩
end
section
variable{ty:TypeId}
theorem mh{hs:HL}{x:α}{u:Value}{p:Operand}(ti:TI E.P U 1 bytes false z)(hk:xW hs off=some u)(hm:bx (rH r hs) T b x∈O)(hp:aE E.N G p (tV (aI b off))):
  bS E O G ⟨dst,.load U p,ty,pos,after,g⟩ (tV u):=(br (q:=rV) ti rfl rfl (XO hk) hm hp).imp fun _ _ h=>(xx.1 h).1
theorem BI{q:Rp α}{r:Rp β}{hs:HL}{x:β}{V:TypeId}{p:Operand}{l:Option Nat}(ti:TI E.P U 1 bytes false z)(hk:xW hs off=some (aw l cap xs.length))(hm:bx (rH r hs) T b x∈O)(hm2:eF q V l cap xs∈O)(hp:aE E.N G p (tV (aI b off))):
  bS E O G ⟨dst,.load U p,ty,pos,after,g⟩ (tO q l cap xs):=fun a w S hs' ho hf=>
 lz (fun _ _ ⟨v,S',h1,h2,h3,h4⟩=>⟨v,S',h1,h2,h3,h4,by
  have h5:v=aw l cap xs.length:=h4
  rw [h5]
  exact ld (((ho.ext0 h2).mem _ hm2).1)⟩) (mh (g:=g) (ty:=ty) (pos:=pos) (after:=after) (dst:=dst) ti hk hm hp a w S hs' ho hf)
theorem OF{t:Ty}(h1: ∀S v,t.p S v→v.oneCell' =true)(hx:aE E.N G x t):bS E O G ⟨dst,.box T x,ty,pos,after,g⟩ (bq (rT t) ()):=
 Ic (fun S a hf=>Xd.2 ⟨h1 _ _ (hx S a hf),hx S a hf⟩)
end
def Ot:HL→HL→Prop
 |[],_=>True
 |p::l,hs=>xW hs p.1=some p.2∧Ot l hs
theorem Ot.all{hs:HL}: ∀{l:HL},Ot l hs→ ∀p∈l,p∈hs
 |_::_,⟨h,_⟩,_,.head _=>qq h
 |_::_,⟨_,h⟩,_,.tail _ hm=>Ot.all h _ hm
end

variable{O' :List OE}
theorem EffOK.perm{t:OI→Ty}(h:EffOK E O' G o post t)(k: ∀{w S},dp E.base E.B w S O→dp E.base E.B w S O')(m: ∀f∈O',f∈O):EffOK E O G o post t:=fun a w S hs ho hf hb=>
 lz (fun _ _ ⟨v,S',x,h1,h2,h3,h4,h5⟩=>⟨v,S',x,h1,h2.more fun _ ⟨f,hf,hk⟩=>⟨f,m f hf,hk⟩,h3,h4,h5⟩) (h a w S hs (k ho) hf hb)
variable{x0:OE}
namespace EffOK
section
variable{t:OI→Ty}
theorem fr1(h:EffOK E (x1::x0::O) G o post t):EffOK E (x0::x1::O) G o post t:=h.perm (fun hw=>dp.swap hw) (fun f hf=>by simp only [iC]at hf ⊢;rcases hf with h|h|h<;>simp [h])
theorem fr2{x2:OE}(h:EffOK E (x2::x0::x1::O) G o post t):EffOK E (x0::x1::x2::O) G o post t:=h.perm (fun hw=>o0 hw) (fun f hf=>by simp only [iC]at hf ⊢;rcases hf with h|h|h|h<;>simp [h])
theorem fr3{x2 x3:OE}(h:EffOK E (x3::x0::x1::x2::O) G o post t):EffOK E (x0::x1::x2::x3::O) G o post t:=h.perm (fun hw=>rl hw) (fun f hf=>by simp only [iC]at hf ⊢;rcases hf with h|h|h|h|h<;>simp [h])
theorem post_imp{post' :OI→List OE}(h:EffOK E O G o post t)(k: ∀{w S x},dp E.base E.B w S (post x)→dp E.base E.B w S (post' x)):EffOK E O G o post' t:=fun a w S hs ho hf hb=>
 lz (fun _ _ ⟨v,S',x,h1,h2,h3,h4,h5⟩=>⟨v,S',x,h1,h2,h3,k h4,h5⟩) (h a w S hs ho hf hb)
end
end EffOK
variable{mm:Bool}
section
variable{ty:TypeId}
theorem IB{zs:List α}{y v:α}{i:Int}{p:Operand}(ti:TI E.P U sz bytes agg z)(hsz:r.sz=sz)(hy:dR xs i=some y)(hz:xs.set i.toNat v=zs)(hp:aE E.N G p (tV (aI b (i.toNat*r.sz))))(hv:aE E.N G x (tD r v)):EffOK E (bx (iS r n) T b xs::O) G ⟨none,.store U p x,ty,pos,after,g⟩ (fun _=>bx (iS r n) T b zs::O) (fun _=>Bq):=Ci (fun _ h=>(by cases h)) fun a w S hsat hown hf hbase=>by
 subst hz
 have h1:a.eval p=aI b (i.toNat*r.sz):=hp S a hf
 obtain⟨ds,h2,h3⟩:=hv S a hf
 obtain⟨⟨hno,cur,h5,h6⟩,_⟩:=hown.1
 obtain⟨h0,hy'⟩:=iN hy
 have hlt:i.toNat<xs.length:=(ox.1 hy').1
 have hl:=j9 h6.2
 simp only [FK]at hl
 have hmul:i.toNat*r.sz+r.sz≤xs.length*r.sz:=by rw [←Nat.succ_mul];exact xl _ hlt
 obtain⟨w',hr,e1,e2,e3,e4,e5,e6⟩:=iE ti hsz h3 h5 (off:=i.toNat*r.sz) (by omega)
 have hrun:(execOp a.eval ⟨none,.store U p x,ty,pos,after,g⟩).run E.P w= .ok .skip w' :=by
  simp [execOp,h1,h2,Instr.storeAt,aI,Instr.sureAddr,hr]
 obtain⟨g1,g2,g3⟩:=ly (O:=O) hsat (bx (iS r n) T b xs) (bx (iS r n) T b (xs.set i.toNat v)) hown (fun _=>pm) (fun _=>pm) ⟨e1,e2,e3,e4.1,e4.2⟩ e6 ⟨hno,_,e5,by rw [xp];exact h6.1,AS h3 h6.2 hlt⟩ hno
 exact⟨w',S,wc,hrun,g1.more fun c hc=>⟨_,lV ..,hc⟩,g2,g3⟩

section
theorem nA{x:α}(ti:TI E.P T sz bytes agg z)(hx: ∀S,r.rc S z x):
  EffOK E O G ⟨some d,.alloc T,ty,pos,after,g⟩ (fun i=>bx r T (i.h 0).2 x::O) (fun i=>tV (aI (i.h 0).2 0)):=fun a w S hs ho hf hb=>by
 obtain⟨zv,hzr,hzc⟩:=ti.zero w
 obtain⟨he,hs',hno⟩:=eh (w:=w) (.cells z.toArray T (0,0)) hs
 have hrun:(execOp a.eval ⟨some d,.alloc T,ty,pos,after,g⟩).run E.P w= .ok (.value (aI w.heap.size 0)) (w.alloc (.cells z.toArray T (0,0))):=by
  simp [execOp,Instr.alloc,hzr,newVar,newRow,hzc,aI]
 refine⟨fun c h=>(by cases h),?_⟩
 rw [hrun]
 exact⟨_,S,oi none w.heap.size,rfl,he.more fun _ hb=>hb.elim,hs',nU ho he (e:=bx r T w.heap.size x) ⟨hno,z.toArray,Am w _,by simpa using hx S⟩ (fun b hb=>wk hb.symm) hb,rfl⟩
end
section
theorem lB{l:Option Nat}{o i:Nat}{y:α}{j:Int}{p:Operand}(hf:bZ E.P T i=some (off,sz))(h0:Nat.beq sz 0=false)(hm:ky mm r U l cap xs∈O)(hy:dR xs j=some y)(hp:aE E.N G p (tV (oX l o)))(he:o+off=n):
  bS E O G ⟨dst,.fieldAddr T p i,ty,pos,after,g⟩ (tV (oX l n)):=by
 subst he
 exact C1 hf h0 hm hy hp
theorem bj(hx:aE E.N G x (tV (aI b off))):bS E O G ⟨dst,.nilCheck x,ty,pos,after,g⟩ (tV (aI b off)):= .of_pure fun a w S _ _ hf=>by
 have h1:a.eval x=aI b off:=hx S a hf
 exact⟨aI b off,by simp [execOp,h1,aI],rfl⟩
theorem Jb{y:α}(hx:aE E.N G x (bq r y)):bS E O G ⟨dst,.nilCheck x,ty,pos,after,g⟩ (bq r y):= .of_pure fun a w S _ _ hf=>by
 have h0:=hx S a hf
 obtain⟨b,off,c,U,fr,h1,h2,h3⟩:=h0
 exact⟨_,by simp [execOp,h1],b,off,c,U,fr,rfl,h2,h3⟩
theorem sF{t:Ty}{p:Operand}(ti:TI E.P U 1 bytes false z)(hp:aE E.N G p (bq (rT t) ())):bS E O G ⟨dst,.load U p,ty,pos,after,g⟩ t:=q5 ti hp
end
theorem yx(h:O=O')(k:RG E ops Q rest O' G):RG E ops Q rest O G:=by subst h;exact k
theorem hW{u:Value}(h:aE N G x (tV u))(ho:u.oneCell' =true):aE N G x (tD rV u):=fun S a hf=>xx.2 ⟨h S a hf,ho⟩
theorem hTT{t:Ty}(h1: ∀S v,t.p S v→v.oneCell' =true)(h:aE N G x t):aE N G x (tD (rT t) ()):=fun S a hf=>Xd.2 ⟨h1 _ _ (h S a hf),h S a hf⟩
end

theorem F5{l:Option Nat}{t' e' :TypeId}(ht:P.underlying t' =some (.slice e'))(h:yq mm r U l cap xs w S)(hs:dq xs lo (xs.length:Int)=some ys):
  ∃news,Src P r.sz t' (lc r.sz l cap lo.toNat ys.length) ys.length news w∧o5 r S news ys:=by
 obtain⟨cells,h1,h2,_⟩:=h
 obtain⟨lo',m,rfl,hm,h3,h4,rfl⟩:=fL hs
 have hm' :m=xs.length:=by omega
 subst hm'
 rw [Bc,Ap]
 cases l with
 |none=>
  have hx:xs=[]:=xm h1.1
  subst hx
  exact⟨[],by simpa [lc] using Src.ofNil w ht 0,by simp [o5]⟩
 |some b=>
  obtain⟨cur,g1,g2,g3,g4,g5⟩:=h1
  have hlen:(xs.drop lo').length=xs.length-lo' :=by simp
  have hcl:=j9 h2
  have hsp:xs=xs.take lo' ++xs.drop lo' :=(sY lo' xs).symm
  have htl:(xs.take lo').length=lo' :=by simp;omega
  have hr:o5 r S (cells.drop (lo' *r.sz)) (xs.drop lo'):=by
   rw [hsp]at h2
   have:=(nu h2).2
   rwa [htl]at this
  have hmul:lo' *r.sz≤xs.length*r.sz:=xl _ h3
  refine⟨cells.drop (lo' *r.sz),?_,hr⟩
  unfold lc
  refine Src.ofSlice w ht _ _ _ _ (j9 hr) (fun j u hu=>?_) (xH hr)
  by_cases hc:cap=lo'
  ·have:xs.drop lo' =[]:=As (by omega)
   rw [this]at hr
   have hr' :cells.drop (lo' *r.sz)=[]:=hr
   rw [hr']at hu;simp at hu
  ·simp only [hc,qw]
   rw [gA,vV g1]
   rw [ul,←g5]at hu
   have hj:lo' *r.sz+j<xs.length*r.sz:=by
    have:=(ox.1 hu).1
    simp at this;omega
   rw [yN hj]at hu
   simpa using hu
section
variable{ty:TypeId}
theorem Ef{l:Option Nat}{yt:TypeId}(ht:E.P.underlying t=some (.slice e))(hm:ky mm r U l cap xs∈O)(hs:dq xs lo (xs.length:Int)=some ys)(hx:aE E.N G x (tV (lc r.sz l cap lo.toNat ys.length)))(hd:Nat.blt d E.N.n=true)(k: ∀b,(b=true→ys=[])→RG E ops Q rest O ((d,tD rB b)::G)):RG E ops Q (⟨some d,.binOp .eql t x (.const (.slice none 0 0)) yt,ty,pos,after,none⟩::rest) O G:= .of rfl fun a w S st=>by
 have h1:a.eval x=lc r.sz l cap lo.toNat ys.length:=hx S a st.facts
 obtain⟨⟨cells,hraw,_⟩,_⟩:=st.own.mem _ hm
 have hcn:a.eval (.const (.slice none 0 0))= .slice none 0 0:=rfl
 cases l with
 |none=>
  have hx0:xs=[]:=xm hraw.1
  have hy0:ys=[]:=by
   obtain⟨lo',m,_,_,_,_,rfl⟩:=fL hs
   subst hx0;simp
  have h3:(Op.equal t (.slice none 0 0) (.slice none 0 0)).run E.P w= .ok true w:=xD fun d=>by
   simp [Op.equalIn,hU ht]
  have hrun:(execOp a.eval ⟨some d,.binOp .eql t x (.const (.slice none 0 0)) yt,ty,pos,after,none⟩).run E.P w= .ok (.value (.bool true)) w:=by
   simp [execOp,h1,lc,hcn,eqGuard,binOp,h3]
  refine⟨fun c h=>(by cases h),?_⟩
  rw [hrun]
  exact k true (fun _=>hy0) _ _ S (st.step (fR _ _ _) st.sat hd (gi.2 rfl))
 |some b=>
  obtain⟨ad,hv⟩: ∃ad,lc r.sz (some b) cap lo.toNat ys.length= .slice (some ad) ys.length (cap-lo.toNat):=⟨_,rfl⟩
  have h3:(Op.equal t (.slice (some ad) ys.length (cap-lo.toNat)) (.slice none 0 0)).run E.P w= .ok false w:=xD fun d=>by
   simp [Op.equalIn,hU ht]
  have hrun:(execOp a.eval ⟨some d,.binOp .eql t x (.const (.slice none 0 0)) yt,ty,pos,after,none⟩).run E.P w= .ok (.value (.bool false)) w:=by
   simp [execOp,h1,hv,hcn,eqGuard,binOp,h3]
  refine⟨fun c h=>(by cases h),?_⟩
  rw [hrun]
  exact k false (fun e=>(by cases e)) _ _ S (st.step (fR _ _ _) st.sat hd (gi.2 rfl))
theorem Cs{t' :TypeId}{l l2:Option Nat}{cap2:Nat}{zs us:List α}{y:Operand}(ti:TI E.P T sz bytes agg z)(hsz:r.sz=sz)(hz:Nat.beq z.length sz=true)(h0:Nat.blt 0 sz=true)(h128:Nat.ble bytes 2048=true)(ht:E.P.underlying t=some (.slice T))(ht' :t' =t)(hd:Nat.blt d E.N.n=true)(hx:aE E.N G x (tV (aw l cap n)))(hm:ky mm r U l2 cap2 us∈cG r T l cap xs::O)(hs:dq us lo (us.length:Int)=some ys)(hy:aE E.N G y (tV (lc r.sz l2 cap2 lo.toNat ys.length)))(happ:kE xs ys=some zs)(k: ∀l' cap',RG E ops Q rest (cG r T l' cap' zs::O) ((d,tV (aw l' cap' zs.length))::G))(hn:n=xs.length:=by rfl):
  RG E ops Q (⟨some d,.call ⟨.builtin .append,#[x,y],#[t,t']⟩,ty,pos,after,none⟩::rest) (cG r T l cap xs::O) G:=by
 subst ht'
 exact tQ (u:=fun cap' l' =>tV (aw l' cap' zs.length)) ti hsz hz h0 h128 ht hd hx (fun a w S st=>by
  have h1:a.eval y=lc r.sz l2 cap2 lo.toNat ys.length:=hy S a st.facts
  rw [h1]
  exact F5 ht (st.own.mem _ hm).1 hs) happ (fun _ _ _ _ _=>rfl) k hn
end

abbrev Xn(α X:Type):=(σ:Type)→(α→σ→Option (Bool×σ))→σ→Option (σ×X)
def Rd(P:Program){α X:Type}(args:α→List Ty)(it:Xn α X)(Ob:X→OI→List OE)(fid:FuncId)(cap:Array Value)(fp:Nat→Prop)(w:World)(S:SH):Prop:=
 ∀(σ:Type) (y:α→σ→Option (Bool×σ)) (s:σ) (R:σ×X),it σ y s=some R→ ∀I yv,Uf P args y I yv→ ∀e,I s e→e.p w S→(∀k,e.fp k→ ¬fp k)→
  Calls P fid (#[yv]++cap) w fun en w' => ∃e' S' j,(∃v,en= .returned v)∧I R.1 e' ∧fM (fun k=>e.fp k∨fp k) w S w' S' ∧gR w' S' ∧e'.p w' S' ∧dp 0 om w' S' (Ob R.2 j)∧(∀k,e'.fp k∨FI (Ob R.2 j) k→(e.fp k∨fp k)∨w.heap.size≤k)∧ ∀k,e'.fp k→ ¬FI (Ob R.2 j) k
def S3(P:Program){α X:Type}(args:α→List Ty)(it:Xn α X)(Ob:X→OI→List OE)(v:Value)(fp:Nat→Prop):OE where
 fp:=fp
 p:=fun w S=>(∀k,fp k→k<w.heap.size)∧ ∃fid cap,v= .func (.func fid) #[] cap∧ah P fid=true∧
  ∀C w' S',fM C w S w' S' →(∀k,fp k→ ¬C k)→gR w' S' →Rd P args it Ob fid cap fp w' S'
 here:=fun h k hk=>h.1 k hk
 kept:=by
  rintro C w w' S S' ⟨h1,fid,cap,h2,h3,h4⟩ k hC
  refine⟨fun b hb=>De (h1 b hb) k.size,fid,cap,h2,h3,fun C' w'' S'' k' hC' hs=>?_⟩;exact h4 (fun b=>C b∨C' b) w'' S'' ((k.more fun b hb=> .inl hb).trans (k'.more fun b hb=> .inr hb)) (fun b hb h=>h.elim (hC b hb) (hC' b hb)) hs
def Uz:Unit→OI→List OE:=fun _ _=>[]
def itU{α:Type}(it:It α):Xn α Unit:=fun σ y s=>(it σ y s).map fun r=>(r,())
variable{args:α→List Ty}{s:im}
theorem UH{it:It α}(h:(Ry P args it v fp).p w S):(S3 P args (itU it) Uz v fp).p w S:=by
 obtain⟨h1,fid,cap,h2,h3,h4⟩:=h
 refine⟨h1,fid,cap,h2,h3,fun C w' S' k hC hs σ y s R hit I yv hy e he hep hap=>?_⟩
 unfold itU at hit
 cases hq:it σ y s with
 |none=>rw [hq]at hit;cases hit
 |some s' =>
  rw [hq]at hit
  obtain rfl:(s',())=R:=by simpa using hit
  refine(h4 C w' S' k hC hs σ y s s' hq I yv hy e he hep hap).mono ?_
  rintro en w2 ⟨e',S2,g1,g2,g3,g4,g5,g6⟩
  exact⟨e',S2,wc,g1,g2,g3,g4,g5,trivial,fun k hk=>hk.elim (fun h=>(g6 k h).imp .inl id) (fun⟨_,h,_⟩=>by cases h),fun k _ ⟨_,h,_⟩=>by cases h⟩
section
variable{it:It α}
theorem T9(h:CG E Q c (S3 P args (itU it) Uz v fp::O) G):CG E Q c (Ry P args it v fp::O) G:=fun a w S st=>h a w S (st.own_map fun⟨⟨g1,g2⟩,g3,g4⟩=>⟨⟨UH g1,g2⟩,g3,g4⟩)
end

section
variable{ty:TypeId}
end

def rq(l:Nat)(r:Loop)(st:LoopState)(pd:Option Code):OE where
 fp:=fun k=>k=l
 p:=fun w S=>S l=none∧w.heap[l]? =some (.loop {r with state:=st,pending:=pd})
 here:=by
  intro w S h k hk
  subst hk
  exact(pY.1 h.2).1
 kept:=by
  intro C w w' S S' h k hC
  have hlt:=(pY.1 h.2).1
  exact⟨by rw [k.old l hlt (hC l rfl)];exact h.1,by rw [k.heap l hlt (hC l rfl)];exact h.2⟩
def Rk(j:Option Nat):LoopState:=if j.isNone then .ready else .done
def SG(E:En)(l:Nat)(rec:Loop){σ ι:Type}(Oi:ι→List OE)(dat:ι→σ)(jc:Nat→Code)(r:Option Nat×σ):Ending→World→Prop:=fun en w' =>
 ∃i S',en= .returned (.bool r.1.isNone)∧dat i=r.2∧fM E.B E.w0 E.S0 w' S' ∧gR w' S' ∧dp E.base E.B w' S' (rq l rec (Rk r.1) (r.1.map jc)::Oi i)
def Ed{α σ:Type}(f:α→σ→Option (Option Nat×σ)):α→Option Nat×σ→Option (Bool×(Option Nat×σ)):=fun x s=>
 match s.1 with
 |some _=>none
 |none=>(f x s.2).map fun r=>(r.1.isNone,r)
variable{Ob:X→OI→List OE}{rec:Loop}{ι:Type}
section
theorem BF{l:Nat}{st st' :LoopState}{pd pd' :Option Code}{O:List OE}(h:dp base B w S (rq l rec st pd::O))(hs:gR w S):
  fM (fun k=>k=l) w S (w.putObj l (.loop {rec with state:=st',pending:=pd' })) S∧gR (w.putObj l (.loop {rec with state:=st',pending:=pd' })) S∧dp base B (w.putObj l (.loop {rec with state:=st',pending:=pd' })) S (rq l rec st' pd' ::O):=by
 obtain⟨hno,hl⟩:=h.1.1
 have hlt:=(pY.1 hl).1
 have hext:fM (fun k=>k=l) w S (w.putObj l (.loop {rec with state:=st',pending:=pd' })) S:=⟨rfl,rfl,rfl,gp _,by simp,fun k _ hk=>World.putObj_heap_other hk,SH.le_refl _,fun _ _ _=>rfl⟩
 refine⟨hext,hs.same fun k o hk=>?_,⟨⟨hno,World.putObj_heap_same hlt⟩,h.1.2⟩,h.2.1,h.2.2.ext hext fun g hg k hk hkl=>h.2.1 g hg k hkl hk⟩
 have hne:k≠l:=fun e=>by subst e;rw [hno]at hk;cases hk
 exact World.putObj_heap_other hne
theorem LS{l:Nat}{body:Code}{R:Ending→World→Prop}(h:CG E (roundPost E.P l R) body (rq l rec .busy none::O) G):AT E (QV E l body R) .normal (rq l rec .ready none::O) G:=fun a w S st=>by
 obtain⟨h1,h2,h3⟩:=BF (st' := .busy) (pd' :=none) st.own st.sat
 obtain⟨_,hl⟩:=st.own.1.1
 exact⟨_,run_beginRound hl rfl,h a _ S ⟨st.ext.step h1 (fun c hc=>st.own.1.2 c hc),h2,h3,st.facts⟩⟩
theorem FG{l:Nat}{σ:Type}{Oi:ι→List OE}{dat:ι→σ}{jc:Nat→Code}{s2:σ}(q:Nat)(hq:jc q= .ret)(i:ι)(hi:dat i=s2)(hO:O=Oi i):AT E (roundPost E.P l (SG E l rec Oi dat jc (some q,s2))) .ret (rq l rec .busy none::O) G:=fun a w S st=>by
 subst hO
 obtain⟨h1,h2,h3⟩:=BF (st' := .done) (pd' :=some .ret) st.own st.sat
 obtain⟨_,hl⟩:=st.own.1.1
 exact⟨_,_,run_endRound (some .ret) hl,i,S,rfl,hi,st.ext.step h1 (fun c hc=>st.own.1.2 c hc),h2,by rw [Da,hq];exact h3⟩
theorem LK{it:Xn α X}{σ:Type}(Oi:ι→List OE)(dat:ι→σ)(jc:Nat→Code){f:α→σ→Option (Option Nat×σ)}{R:(Option Nat×σ)×X}{g:Operand}{ps:List Nat}{assign body:Code}(hr:E.r=none)(hg:aE E.N G g (tV v))(i0:ι)(hO:O=S3 E.P args it Ob v fp::Oi i0)(hit:it (Option Nat×σ) (Ed f) (none,dat i0)=some R)(hps: ∀x,ps.length=(args x).length)(hpn:(ps.all fun d=>Nat.blt d E.N.n)=true)(hbody: ∀(i:ι) (x:α) (r:Option Nat×σ),f x (dat i)=some r→ ∀(l:Nat) (rec:Loop) (w1:World) (S1:SH) (B1:Nat→Prop),
   CG ⟨E.P,⟨E.N.n,[]⟩,B1,w1,S1,some l⟩ (QV ⟨E.P,⟨E.N.n,[]⟩,B1,w1,S1,some l⟩ l body (SG ⟨E.P,⟨E.N.n,[]⟩,B1,w1,S1,some l⟩ l rec Oi dat jc r)) assign (rq l rec .ready none::Oi i) (DB ps (args x) G))(k: ∀i' j,dat i' =R.1.2→ ∀b,(R.1.1=none→AT ⟨E.P,⟨E.N.n,u0 b::E.N.ds⟩,E.B,E.w0,E.S0,E.r⟩ Q .normal (FJ b::(Ob R.2 j++Oi i')) G)∧
   (∀q,R.1.1=some q→CG ⟨E.P,⟨E.N.n,u0 b::E.N.ds⟩,E.B,E.w0,E.S0,E.r⟩ Q (jc q) (FJ b::(Ob R.2 j++Oi i')) G)):CG E Q (.rangeFunc g ps.toArray assign body) O G:=fun a w S st=>by
 subst hO
 refine wpIn_rangeFunc fun fn _=>?_
 have hr0:(fw E.r).round=none:=hr
 have hfw:fw E.r=fw none:=by rw [hr]
 rw [hr0]
 obtain⟨rec,hrec⟩: ∃rec:Loop,rec={state:= .ready,pending:=none,fn,tmps:=a.tmps,params:=ps.toArray,assign,body,defers:=w.heap.size}:=⟨_,rfl⟩
 obtain⟨x1,x2,x3⟩:=eh (w:=w) (.deferred (some [])) st.sat
 obtain⟨y1,y2,y3⟩:=eh (w:=w.alloc (.deferred (some []))) (.loop rec) x2
 obtain⟨W1,hW1⟩: ∃W1,(w.alloc (.deferred (some []))).alloc (.loop rec)=W1:=⟨_,rfl⟩
 rw [hW1]at y1 y2
 have hsz:(w.alloc (.deferred (some []))).heap.size=w.heap.size+1:=by simp
 rw [hsz]at y3
 have hext:fM om w S W1 S:=x1.trans y1
 have hL1:W1.heap[w.heap.size+1]? =some (.loop rec):=by
  rw [←hW1];have:=World.alloc_heap_new (w.alloc (.deferred (some []))) (.loop rec);rwa [hsz]at this
 have hK1:W1.heap[w.heap.size]? =some (.deferred (some [])):=by
  rw [y1.heap w.heap.size (by omega) (fun h=>h)];exact World.alloc_heap_new w _
 have hW1s:W1.heap.size=w.heap.size+2:=by rw [←hW1];simp
 have hg' :a.eval g=v:=hg S a st.facts
 obtain⟨hit1,hap,hoi⟩:=st.own
 obtain⟨⟨hfp,gf,cap,hv,hcal,hcall⟩,hbase⟩:=hit1
 have hbl:=st.base_le
 have hoi1:dp E.base E.B W1 S (Oi i0):=hoi.ext0 hext
 have hlt: ∀f∈Oi i0,∀k,f.fp k→k<w.heap.size:=fun f hf k hk=>f.here (dp.mem hoi f hf).1 k hk
 refine⟨w.heap.size+1,[u0 w.heap.size],W1,{target:= .fn (.func gf) cap,args:= #[.func (.yield (w.heap.size+1)) #[] #[]]},W1,gf,
  #[.func (.yield (w.heap.size+1)) #[] #[]]++cap,W1,?_,?_,fun _ _=>trivial,?_,fun h=>(by cases h),?_⟩
 ·rw [←hW1,hrec];exact run_enterLoop_outer _ _ _ _ _
 ·simp only [resolve,hg',hv]
  simp [go_sem]
 ·simp [invoke,go_sem,fx hcal]
 rw [hfw]
 refine kW.2 ?_
 have hyld:Uf E.P args (Ed f) (fun s e=> ∃i,dat i=s.2∧e=ov S (rq (w.heap.size+1) rec (Rk s.1) (s.1.map jc)::Oi i)) (.func (.yield (w.heap.size+1)) #[] #[]):=by
  refine⟨_,rfl,?_⟩
  rintro x ⟨j0,s⟩ r hy e ⟨i,hi,rfl⟩ w2 S2 vs hs2 ⟨hle,hown⟩ hvs
  cases j0 with
  |some q=>unfold Ed at hy;cases hy
  |none=>
  have hi' :dat i=s:=hi
  subst hi'
  obtain⟨r2,hs2',rfl⟩: ∃r2,f x (dat i)=some r2∧r=(r2.1.isNone,r2):=by
   unfold Ed at hy
   cases hf:f x (dat i)with
   |none=>simp only [hf]at hy;cases hy
   |some s2=>simp only [hf]at hy;exact⟨s2,rfl,by simpa using hy.symm⟩
  have hl2:=hown.1.1.2
  have hvl:=hvs.length
  have hyr:=run_yield (P:=E.P) (args:=vs.toArray) hl2 (by rw [hrec];simp [hps x,hvl])
  refine⟨_,_,_,_,hyr,roundIn_of_wpIn trivial ?_⟩
  have hown' :dp 0 om w2 S2 (rq (w.heap.size+1) rec .ready none::Oi i):=hown
  have:=hbody i x r2 hs2' (w.heap.size+1) rec w2 S2 (fun k=> ∃f∈rq (w.heap.size+1) rec .ready none::Oi i,f.fp k)
   {tmps:=(ps.zip vs).foldl (fun t (p:Nat×Value)=>t.setIfInBounds p.1 p.2) a.tmps,defers:=[]} w2 S2
   ⟨fR _ _ _,hs2,lF hown' fun f hf k hk=> .inr ⟨f,hf,hk⟩,w9 ps (args x) vs ⟨a.tmps,[]⟩ G (hps x) hvs hpn ⟨st.facts.size,rfl,fun j t h=>t.mono hle (st.facts.at_ j t h)⟩⟩
  rw [hrec]
  rw [hrec]at this
  rw [t8]
  refine wpIn_mono this ?_
  intro e a3 w3 hp
  cases e with
  |normal=>
   obtain⟨w4,hb4,hp4⟩:=hp
   refine⟨w4,hb4,wpIn_mono hp4 ?_⟩
   have hR: ∀en w',SG ⟨E.P,⟨E.N.n,[]⟩,fun k=> ∃f∈rq (w.heap.size+1) rec .ready none::Oi i,f.fp k,w2,S2,some (w.heap.size+1)⟩ (w.heap.size+1) rec Oi dat jc r2 en w' →
     ∃e' S',en= .returned (.bool r2.1.isNone)∧(∃i',dat i' =r2.2∧e' =ov S (rq (w.heap.size+1) rec (Rk r2.1) (r2.1.map jc)::Oi i'))∧fM (ov S (rq (w.heap.size+1) rec .ready none::Oi i)).fp w2 S2 w' S' ∧gR w' S' ∧e'.p w' S' ∧ ∀k,e'.fp k→(ov S (rq (w.heap.size+1) rec .ready none::Oi i)).fp k∨w2.heap.size≤k:=by
    rintro en w' ⟨i',S',h1,h2,h3,h4,h5⟩
    exact⟨_,S',h1,⟨i',h2,rfl⟩,h3,h4,⟨SH.le_trans hle h3.keep,h5.weak⟩,fun k ⟨f,hf,hk⟩=>((dp.mem h5 f hf).2 k hk).symm⟩
   rw [hrec]at hR
   intro e5 a5 w5 hp5
   cases e5<;>simp only [roundPost]at hp5 ⊢
   case normal=>obtain⟨v5,w6,h1,h2⟩:=hp5;exact⟨v5,w6,h1,hR _ _ h2⟩
   case ret=>obtain⟨v5,w6,h1,h2⟩:=hp5;exact⟨v5,w6,h1,hR _ _ h2⟩
   case exit=>obtain⟨v5,w6,h1,h2⟩:=hp5;exact⟨v5,w6,h1,hR _ _ h2⟩
   case goto=>obtain⟨v5,w6,h1,h2⟩:=hp5;exact⟨v5,w6,h1,hR _ _ h2⟩
  |_=>exact hp
 have hrecE:W1.heap[w.heap.size+1]? =some (.loop {rec with state:= .ready,pending:=none}):=by rw [hL1,hrec]
 have he0:(ov S (rq (w.heap.size+1) rec .ready none::Oi i0)).p W1 S:=⟨SH.le_refl _,⟨⟨y3,hrecE⟩,fun _ _=> .inl (jJ _)⟩,fun f hf k hk hfk=>by have:=hlt f hf k hfk;have hk' :k=w.heap.size+1:=hk;omega,hoi1.weak⟩
 have hap0: ∀k,(ov S (rq (w.heap.size+1) rec .ready none::Oi i0)).fp k→ ¬fp k:=by
  rintro k ⟨f,hf,hk⟩ hfk
  rcases iC.1 hf with rfl|hf
  ·have:=hfp k hfk;have hk' :k=w.heap.size+1:=hk;omega
  ·exact hap f hf k hfk hk
 refine(hcall om W1 S hext (fun _ _ h=>h) y2 _ (Ed f) (none,dat i0) R hit _ _ hyld _ ⟨i0,rfl,rfl⟩ he0 hap0).mono ?_
 rintro en w2 ⟨e',S2,j,⟨vr,rfl⟩,⟨i',hi',rfl⟩,hx2,hs2,⟨hle2,hown2⟩,hob,hnew,hapo⟩
 have hl2:=hown2.1.1.2
 have hnb: ∀k,(FJ w.heap.size).fp k→ ¬((ov S (rq (w.heap.size+1) rec .ready none::Oi i0)).fp k∨fp k):=by
  rintro k hk h
  have hk' :k=w.heap.size:=hk
  subst hk'
  rcases h with⟨f,hf,hfk⟩|h
  ·rcases iC.1 hf with rfl|hf
   ·have hk' :w.heap.size=w.heap.size+1:=hfk;omega
   ·have:=hlt f hf _ hfk;omega
  ·have:=hfp _ h;omega
 have hBin: ∀k,((ov S (rq (w.heap.size+1) rec .ready none::Oi i0)).fp k∨fp k)→E.w0.heap.size≤k∨E.B k:=by
  rintro k (⟨f,hf,hk⟩|h)
  ·rcases iC.1 hf with rfl|hf
   ·left;have hk' :k=w.heap.size+1:=hk;have:E.w0.heap.size≤w.heap.size:=hbl;omega
   ·exact(dp.mem hoi f hf).2 k hk
  ·exact hbase k h
 have hBn: ∀k,((ov S (rq (w.heap.size+1) rec (Rk R.1.1) (R.1.1.map jc)::Oi i')).fp k∨FI (Ob R.2 j) k)→E.base≤k∨E.B k:=fun k hk=>(hnew k hk).elim (hBin k) (fun h=> .inl (by have h1:E.base≤w.heap.size:=hbl;have h2:W1.heap.size≤k:=h;omega))
 have hb2:dp E.base E.B w2 S2 (rq (w.heap.size+1) rec (Rk R.1.1) (R.1.1.map jc)::(Ob R.2 j++Oi i')):=by
  obtain⟨q1,q2,q3⟩:=hown2
  refine dp.cons ⟨q1.1,fun k hk=>hBn k (.inl ⟨_,lV ..,hk⟩)⟩ (fun f hf=>?_) (yA (lF hob fun f hf k hk=>hBn k (.inr ⟨f,hf,hk⟩)) (lF q3 fun f hf k hk=>hBn k (.inl ⟨f,kG _ hf,hk⟩)) fun e he f hf k hek hfk=>hapo k ⟨f,kG _ hf,hfk⟩ ⟨e,he,hek⟩)
  rcases wK.1 hf with hf|hf
  ·exact fun k hk hfk=>hapo k ⟨_,lV ..,hk⟩ ⟨f,hf,hfk⟩
  ·exact q2 f hf
 have hend:Rk R.1.1≠ .busy:=by unfold Rk;split<;>simp
 obtain⟨z1,z2,z3⟩:=BF (st' := .exhausted) (pd' :=R.1.1.map jc) hb2 hs2
 have hdf:(FJ w.heap.size).p W1 S:=⟨x3,hK1⟩
 have Ue:(FJ w.heap.size).p w2 S2:=(FJ w.heap.size).kept hdf hx2 hnb
 have hd3:=(FJ w.heap.size).kept Ue z1 (fun k hk hkl=>by have h1:k=w.heap.size:=hk;have h2:k=w.heap.size+1:=hkl;omega)
 have stE:St ⟨E.P,⟨E.N.n,u0 w.heap.size::E.N.ds⟩,E.B,E.w0,E.S0,E.r⟩ (FJ w.heap.size::(Ob R.2 j++Oi i')) G {a with defers:=[u0 w.heap.size]++a.defers} (w2.putObj (w.heap.size+1) (.loop {rec with state:= .exhausted,pending:=R.1.1.map jc})) S2:=by
  refine⟨((st.ext.step0 hext).step hx2 hBin).step z1 (fun c hc=>z3.1.2 c hc),z2,?_,?_⟩
  ·refine dp.cons ⟨hd3,fun k hk=> .inl (by have h1:k=w.heap.size:=hk;rw [h1];exact hbl)⟩ (fun f hf k hk hfk=>?_) z3.2.2
   have h1:k=w.heap.size:=hk
   have h2:((ov S (rq (w.heap.size+1) rec (Rk R.1.1) (R.1.1.map jc)::Oi i')).fp k∨FI (Ob R.2 j) k):=by
    rcases wK.1 hf with hf|hf
    ·exact .inr ⟨f,hf,hfk⟩
    ·exact .inl ⟨f,kG _ hf,hfk⟩
   rcases hnew k h2 with h|h
   ·exact hnb k hk h
   ·omega
  ·refine⟨st.facts.size,?_,fun j t hj=>t.mono (SH.le_trans (SH.le_refl S) hle2) (st.facts.at_ j t hj)⟩
   show u0 w.heap.size::a.defers=_
   rw [st.facts.defers]
 obtain⟨k1,k2⟩:=k i' j hi' w.heap.size
 refine⟨_,_,run_endLoop hl2 hend,?_⟩
 cases hR1:R.1.1 with
 |none=>
  rw [hR1]at stE
  exact k1 hR1 _ _ S2 stE
 |some q=>
  rw [hR1]at stE
  have:=k2 q hR1 _ _ S2 stE
  show(jc q).wpIn (fw none) 0 E.P Q _ _
  have hE:fw (⟨E.P,⟨E.N.n,u0 w.heap.size::E.N.ds⟩,E.B,E.w0,E.S0,E.r⟩:En).r=fw none:=hfw
  rw [hE]at this
  exact this
end

def K0(l:List (Option Nat×Nat)):OI:={h:=fun n=>l.getD n (none,0)}
def iI(P:Program){A X ρ:Type}(args:A→List Ty)(Ob:X→OI→List OE)(res:ρ→Ty)(f:X→A→Option (ρ×X)):Ty where
 p:=fun S v=> ∀x y R,f x y=some R→ ∃fid fst cap,v= .func (.func fid) fst cap∧ah P fid=true∧ ∀i w S' vs,SH.le S S' →gR w S' →tP S' (args y) vs→dp 0 om w S' (Ob x i)→
  Calls P fid (fst++vs.toArray++cap) w fun en w' => ∃j v S'',en= .returned v∧(res R.1).p S'' v∧fM (FI (Ob x i)) w S' w' S'' ∧gR w' S'' ∧dp 0 om w' S'' (Ob R.2 j)∧ ∀k,FI (Ob R.2 j) k→FI (Ob x i) k∨w.heap.size≤k
 mono:=fun h k x y R hf=>by
  obtain⟨fid,fst,cap,e,hc,hs⟩:=k x y R hf
  exact⟨fid,fst,cap,e,hc,fun i w S' vs hle=>hs i w S' vs (SH.le_trans h hle)⟩
variable{A ρ:Type}{res:ρ→Ty}
theorem KB{args:A→List Ty}:(iI P args Ob res (fun _ _=>none)).p S v:=fun _ _ _ h=>by cases h
variable{ats:Array TypeId}
section
section
variable{ty:TypeId}
theorem mg{args:A→List Ty}{f:X→A→Option (ρ×X)}{fid:FuncId}(hc:ah E.P fid=true)(hs: ∀x y R,f x y=some R→ ∀i,fq E.P fid (args y) (Ob x i) (fun _:OI=>res R.1) (fun j=>Ob R.2 j)):
  aE E.N G (.func fid) (iI E.P args Ob res f):=fun S a _ x y R hR=>
 ⟨fid,#[],#[],rfl,hc,fun i w' S' vs _ hsat hv ho=>by
  rw [show(#[]++vs.toArray++ #[]:Array Value)=vs.toArray from by simp]
  exact hs x y R hR i w' S' vs hsat hv ho⟩
end
theorem Fq{args:A→List Ty}{f:X→A→Option (ρ×X)}{x:X}{y:A}{R:ρ×X}{i:OI}{ty:TypeId}{fo:Operand}{xs:List Operand}(Or:List OE)(hO:O=Ob x i++Or)(hf:aE E.N G fo (iI E.P args Ob res f))(hR:f x y=some R)(hx:j6 E.N G xs (args y))(hpost: ∀j,Ob R.2 j++Or=post j):
  EffOK E O G ⟨some d,.call ⟨.value fo,xs.toArray,ats⟩,ty,pos,after,g⟩ post (fun _=>res R.1):=fun a w S hsat ho hF hb=>by
 subst hO
 obtain rfl:(fun j=>Ob R.2 j++Or)=post:=funext hpost
 obtain⟨fid,fst,cap,e,hc,hs⟩:=hf S a hF x y R hR
 have hr:(execOp a.eval ⟨some d,.call ⟨.value fo,xs.toArray,ats⟩,ty,pos,after,g⟩).run E.P w= .ok (.enter fid (fst++(xs.map a.eval).toArray++cap)) w:=by
  simp [execOp,resolve,e,Deferred.ofValue,invoke,fx hc]
 refine⟨fun c h=>(by cases h),?_⟩
 rw [hr]
 exact(hs i w S _ (SH.le_refl _) hsat (hx.tys hF) (nE ho).1.weak).mono fun en w' ⟨j,v,S',he,hv,h1,h2,h3,h4⟩=>⟨_,he,v,S',j,rfl,h1.more fun b ⟨f,hf,hb⟩=>⟨f,Df _ hf,hb⟩,h2,dp.turn ho hb h1 h3 h4,hv⟩
section
variable{N:Nat}{w0:World}{S0:SH}{O1:List OE}{t:ι→Ty}{O2:ι→List OE}
end
end
section
variable [DecidableEq κ]{k:κ}{i v:Operand}{dst:Option Nat}{ty:TypeId}
theorem dx{γ:β→Ty}(hm:E.P.underlying t=some (.map kt et))(hk:Kf E.P kt kv)(hx:aE E.N G x (tV (ne b)))(hi:Ei E.N G i (kv k))(hv:aE E.N G v (γ y))(h: ∀os',RG E ops Q rest (BO (LW γ) kv b none os' (fB m k y)::O) G):
  RG E ops Q (⟨none,.insert t x i v,ty,pos,after,none⟩::rest) (BO (LW γ) kv b none os m::O) G:= .of rfl fun a w S st=>by
 have h1:a.eval x=ne b:=hx S a st.facts
 have h2:a.eval i=kv k:=hi S a st.facts
 have h3:(γ y).p S (a.eval v):=hv S a st.facts
 obtain⟨⟨hp,hfp⟩,hap,hO⟩:=st.own
 obtain⟨hno,hnb,es,clock,e3,e4,hst⟩:=hp
 obtain⟨q,hq,hdk,hinj⟩:=hk
 obtain⟨os1,p1,p2,_⟩:=xb hdk hinj (k:=k) 0 e4
 have hnb1: ∀o∈os1,o.1≠some b:=fun o ho=>by
  rcases p1 o ho with h|h
  ·exact hnb o h
  ·rw [h];exact fun e=>by cases e
 obtain⟨w',os',r,x1,x2,x3,x4⟩:=Lg (V:=LW γ) (E:=E) (y:=y) (o:=(none,0)) (val:=a.eval v) st.sat hm ⟨q,hq,hdk,hinj⟩ ⟨hno,hnb1,es,clock,e3,p2,hst⟩ ⟨rfl,h3⟩ (fun e=>by cases e) (fun _ _ _ e=>by cases e)
 have hrun:(execOp a.eval ⟨none,.insert t x i v,ty,pos,after,none⟩).run E.P w= .ok .skip w' :=by simp [execOp,h1,h2,r]
 refine⟨fun c h=>(by cases h),?_⟩
 rw [hrun]
 have hfp' : ∀j,(BO (LW γ) kv b none os' (fB m k y)).fp j→(BO (LW γ) kv b none os m).fp j:=fun j hj=>by
  rcases x4 j hj with(h|⟨o,ho,e⟩)|e
  ·exact .inl h
  ·rcases p1 o ho with h|h
   ·exact .inr ⟨o,h,e⟩
   ·rw [h]at e;cases e
  ·cases e
 exact h os' _ _ S ⟨st.ext.step x1 (fun c hc=>hfp c (.inl hc)),x2,⟨⟨x3,fun j hj=>hfp j (hfp' j hj)⟩,fun f hf j hj=>hap f hf j (hfp' j hj),hO.ext x1 fun f hf j hj hjb=>hap f hf j (.inl hjb) hj⟩,st.facts⟩
end

def rL{κ β:Type}(γ:β→Ty)(kv:κ→Value)(S:SH):List MapEntry→List (κ×β)→Prop
 |[],[]=>True
 |e::es,q::m=>e.key=kv q.1∧(γ q.2).p S e.val∧(∀p∈m,p.1≠q.1)∧rL γ kv S es m
 |_,_=>False
theorem tK{κ β:Type}{γ:β→Ty}{kv:κ→Value}{S S' :SH}(h:SH.le S S'): ∀{es:List MapEntry} {m:List (κ×β)},rL γ kv S es m→rL γ kv S' es m
 |[],[],_=>trivial
 |_::_,q::_,⟨h1,h2,h3,h4⟩=>⟨h1,(γ q.2).mono h h2,h3,tK h h4⟩
theorem Nm{κ β:Type} [DecidableEq κ]{γ:β→Ty}{kv:κ→Value}{w:World}{S:SH}: ∀{es:List MapEntry} {os:List (Option Nat×Nat)} {m:List (κ×β)},ug (LW γ) kv w S none es os m→rL γ kv S es m
 |[],[],[],_=>trivial
 |_::_,_::_,_::_,⟨h1,h2,_,h4,h5⟩=>⟨h1,by rw [dd (by simp)]at h2;exact h2.2,h4,Nm h5⟩
theorem NP{κ β:Type} [DecidableEq κ]{γ:β→Ty}{kv:κ→Value}{w:World}{S:SH}: ∀{es:List MapEntry} {m:List (κ×β)},rL γ kv S es m→ug (LW γ) kv w S none es (m.map fun _=>(none,0)) m
 |[],[],_=>trivial
 |_::_,_::_,⟨h1,h2,h3,h4⟩=>⟨h1,by rw [dd (by simp)];exact⟨rfl,h2⟩,fun _ _ _ h=>(by cases h),h3,NP h4⟩
def CU{κ β:Type}(γ:β→Ty)(kv:κ→Value)(m:List (κ×β)):Ty where
 p:=fun S v=> ∃b es clock,v=ne b∧S b=some (.map es clock)∧rL γ kv S es.toList m
 mono:=fun h ⟨b,es,cl,e,h1,h2⟩=>by
  obtain⟨o',h3,h4⟩:=h b _ h1
  have h5:o' = .map es cl:=h4
  subst h5
  exact⟨b,es,cl,e,h3,tK h h2⟩
theorem OA{γ:β→Ty}: ∀S v,(CU γ kv m).p S v→v.oneCell' =true:=fun _ _ ⟨_,_,_,e,_⟩=>by rw [e];rfl
section
variable [DecidableEq κ]{k:κ}{i:Operand}{γ:β→Ty}{dst:Option Nat}{ty:TypeId}
theorem uY{z:β}{zv:Value}(hm:E.P.underlying t=some (.map kt et))(hk:Kf E.P kt kv)(hz:ZV E.P et zv)(hzt: ∀S,(γ z).p S zv)(hx:aE E.N G x (CU γ kv m))(hi:Ei E.N G i (kv k)):
  bS E O G ⟨dst,.lookup t x i false,ty,pos,after,g⟩ (γ ((nV m k).getD z)):= .of_pure fun a w S hs ho hf=>by
 obtain⟨b,es,clock,h1,h3,h4⟩:=hx S a hf
 obtain⟨o',h5,h6⟩:=hs b _ h3
 have h7:o' = .map es clock:=h6
 subst h7
 obtain⟨q,hq,hd,hinj⟩:=hk
 have h2:a.eval i=kv k:=hi S a hf
 obtain⟨_,_,_,h8⟩:=xb hd hinj (k:=k) 0 (NP (w:=w) h4)
 rcases h8 with⟨g1,g2⟩|⟨y,o,e,j,g1,g2,g3,g4,g5⟩
 ·refine⟨zv,by simp [execOp,h1,h2,wq hm hq (hd k) h5 hz g2],by rw [g1];exact hzt S⟩
 ·refine⟨e.val,by simp [execOp,h1,h2,wq hm hq (hd k) h5 hz g4],by rw [g1];exact g3.2⟩
theorem St.settleMp{j:Nat}(h:St E (BO (LW γ) kv b none os m::O) G a w S)(hk:look G j=some (tV (ne b))): ∃S',St E O ((j,CU γ kv m)::G) a w S' :=by
 obtain⟨⟨hn,_,es,clock,h3,h4,_⟩,_⟩:=h.own.1
 obtain⟨h8,hle,_,_⟩:=wR h (.inl rfl) h3 (q0 _) hn
 have hv:a.tmps.getD j undef=ne b:=h.facts.at_ j _ hk
 exact⟨_,h8.cons ⟨b,es,clock,hv,by simp [SH.set],tK hle (Nm h4)⟩⟩
theorem vv{e:Exit}(j:Nat)(hk:look G j=some (tV (ne b)))(h:AT E Q e O ((j,CU γ kv m)::G)):AT E Q e (BO (LW γ) kv b none os m::O) G:=
 fun a w _ st=>let⟨S',st'⟩:=st.settleMp hk;h a w S' st'
end
def pD(P:Program){α β:Type}(args:α→List Ty)(res:β→Ty)(f:α→Option β):Ty where
 p:=fun S v=> ∀x y,f x=some y→ ∃fid cap,v= .func (.func fid) #[] cap∧ah P fid=true∧ ∀w S' vs,SH.le S S' →gR w S' →tP S' (args x) vs→
  Calls P fid (vs.toArray++cap) w fun e w' => ∃v S'',e= .returned v∧fM om w S' w' S'' ∧gR w' S'' ∧(res y).p S'' v
 mono:=fun h k x y hxy=>by
  obtain⟨f,cap,e,hc,k⟩:=k x y hxy
  exact⟨f,cap,e,hc,fun w S' vs hle=>k w S' vs (SH.le_trans h hle)⟩
theorem gS{res:β→Ty}{f:α→Option β}(h:aE N G x (dJ P args res f)):aE N G x (pD P args res f):=fun S a hf u y hxy=>by
 obtain⟨fid,cap,e,hc,k⟩:=h S a hf
 exact⟨fid,cap,e,hc,fun w S' vs=>k u y hxy w S' vs⟩
theorem I6{res:β→Ty}:(pD P args res (fun _:α=>(none:Option β))).p S v:=fun _ _ h=>by cases h
theorem DH{ty:TypeId}{res:β→Ty}{f:α→Option β}{fo:Operand}{x:α}{xs:List Operand}(hfo:aE E.N G fo (pD E.P args res f))(h:f x=some y)(hx:j6 E.N G xs (args x)):
  bS E O G ⟨dst,.call ⟨.value fo,xs.toArray,ats⟩,ty,pos,after,g⟩ (res y):=fun a w S hS _ hF=>by
 obtain⟨fid,cap,e,hc,hs⟩:=hfo S a hF x y h
 have hr:(execOp a.eval ⟨dst,.call ⟨.value fo,xs.toArray,ats⟩,ty,pos,after,g⟩).run E.P w= .ok (.enter fid ((xs.map a.eval).toArray++cap)) w:=by
  simp [execOp,resolve,e,Deferred.ofValue,invoke,fx hc]
 refine⟨fun c h=>(by cases h),?_⟩
 rw [hr]
 exact(hs w S _ (SH.le_refl _) hS (hx.tys hF)).mono fun e w' ⟨v,S',he,h1,h2,h3⟩=>⟨v,he,v,S',rfl,h1,h2,h3⟩

def GS:Nat:=1000000
def Xt{α:Type}(r:Rp α)(x:α)(g:Nat):Ty where
 p:=fun S _=>(bq r x).p S (aI g 0)
 mono:=fun h k=>(bq r x).mono h k
theorem S7{x:α}{g:Nat}{vs:List Value}(hs:gR w S)(hg:(g,vs)∈glob)(hr: ∀S,r.rc S vs x):(bq r x).p S (aI g 0):=by
 obtain⟨c,T,fr,h1,h2⟩:=hs.gl _ hg
 refine⟨g,0,c,T,fr,rfl,h1,?_⟩
 rw [uc,←r.len (hr S)]
 have h3:c.toList.take vs.length=vs:=h2
 rw [h3]
 exact hr S
section
variable{ty:TypeId}
theorem M6{t:Ty}(hf:co N S a G)(h: ∀v,t.p S v):co N S a ((GS,t)::G):=⟨hf.size,hf.defers,fun j u hj=>by
 unfold look at hj
 cases hb:Nat.beq GS j with
 |true=>
  rw [hb]at hj
  simp only [cond_true,Option.some.injEq]at hj
  rw [←hj];exact h _
 |false=>
  rw [hb]at hj
  simp only [cond_false]at hj
  exact hf.at_ j u hj⟩
theorem zA{x:α}{v:Nat}{vs:List Value}{t:Ty}(hg:(v,vs)∈glob)(hr: ∀S,r.rc S vs x)(h:bS E O ((GS,Xt r x v)::G) o t):bS E O G o t:=fun a w S hs ho hf=>
 h a w S hs ho (M6 hf fun _=>S7 hs hg hr)
theorem MW{x:α}{v:Nat}:aE N ((GS,Xt r x v)::G) (.global v) (bq r x):=fun S a hf=>hf.at_ GS (Xt r x v) (by simp [look])
def Ln(s:im)(i:Int):Option Int:=(dR s i).map fun b=>(b.toNat:Int)
theorem KY{ix:Operand}{i y:Int}(ht:E.P.underlying t=some .string)(hx:aE E.N G x (tD rS s))(hi:aE E.N G ix (tD (rI k) i))(hy:Ln s i=some y):
  bS E O G ⟨dst,.index t x ix,ty,pos,after,g⟩ (tD (rI .u8) y):= .of_pure fun a w S _ _ hf=>by
 have h1:a.eval x= .string ⟨s.toArray⟩:=qI.1 (hx S a hf)
 have h2:a.eval ix= .int k i:=cZ.1 (hi S a hf)
 unfold Ln at hy
 cases hb:dR s i with
 |none=>rw [hb]at hy;cases hy
 |some b=>
  rw [hb]at hy
  obtain⟨g1,g2⟩:=iN hb
  have hlt:i.toNat<s.length:=(ox.1 g2).1
  have e:y=(b.toNat:Int):=by simpa using hy.symm
  have hsz:(ByteArray.mk s.toArray).size=s.length:=by simp [ByteArray.size]
  refine⟨.int .u8 y,?_,cZ.2 rfl⟩
  have h3:=run_index_string (P:=E.P) w t ⟨s.toArray⟩ k i ht
  rw [dif_pos (by rw [hsz];omega)]at h3
  have h4:(ByteArray.mk s.toArray)[i.toNat]'(by rw [hsz];exact hlt)=b:=by
   have:=(ox.1 g2).2
   show s.toArray[i.toNat]=b
   simpa using this
  simp only [execOp,h1,h2,pW,h3,qz,Be]
  rw [h4,e]
def QT(a b:im):Int:=Lib.compareBytes a b
theorem OD{f:FuncId}{u:im}{y:Operand}(hf:E.P.funcs[f]? =some fn)(hname:(fn.name== "runtime.NumGoroutine")=false)(hb:fn.body.isNone=true)(hn:Extern.findNext fn=none)(he:Extern.find fn=some Extern.BytealgCompare.compare)(hx:aE E.N G x (tD rS s))(hy:aE E.N G y (tD rS u)):
  bS E O G ⟨dst,.call ⟨.value (.func f),#[x,y],ats⟩,ty,pos,after,g⟩ (tD (rI .i64) (QT s u)):= .of_pure fun a w S _ _ hF=>by
 have h1:a.eval x= .string ⟨s.toArray⟩:=qI.1 (hx S a hF)
 have h2:a.eval y= .string ⟨u.toArray⟩:=qI.1 (hy S a hF)
 refine⟨.int .i64 (QT s u),?_,cZ.2 rfl⟩
 have h3:=run_callFunc_extern hf hname hb hn he #[.string ⟨s.toArray⟩,.string ⟨u.toArray⟩] w
 rw [Lib.run_compareString]at h3
 have h0:a.eval (.func f)= .func (.func f) #[] #[]:=rfl
 simp [execOp,resolve,h0,Deferred.ofValue,invoke,h1,h2,h3,QT,Result.andThen]
end
open Go.MapKept (Stamped)
section
variable [DecidableEq κ]
def tNx(b:Bool):Ty where
 p:=fun _ v=> ∃vs:List Value,v= .tuple (.mk (.bool b::vs))
 mono:=fun _ h=>h
end
section
variable [DecidableEq κ]{r:Nat}{left:List κ}{cur:Option κ}{k:κ}{i v:Operand}{dst:Option Nat}{ty:TypeId}
theorem E2{f:Bool}(hx:aE E.N G x (tNx f)):bS E O G ⟨dst,.extract x 0,ty,pos,after,g⟩ (tD rB f):=
 .of_pure fun a w S _ _ hf=>by
  obtain⟨vs,h1⟩:=hx S a hf
  exact⟨.bool f,by simp [execOp,h1,Instr.extract],gi.2 rfl⟩
end
open Go.RowKit

theorem Lv(hs:gR w S)(h:Below w.heap.size w w')(hd:w.drawn≤w'.drawn):fM om w S w' S∧gR w' S:=
 ⟨⟨h.os,h.tape,h.output,hd,h.size,fun k hk _=>h.block k hk,SH.le_refl _,fun _ _ _=>rfl⟩,hs.same fun b o hb=>h.block b (hs.lt hb)⟩
theorem Hc{f:FuncId}{t:im}(h: ∀w:World,KA w→Calls P f #[.string ⟨s.toArray⟩] w fun e w' =>e= .returned (.string ⟨t.toArray⟩)∧Below w.heap.size w w'):aN P f [tD rS s] (tD rS t):=fun w S vs hs hv=>by
 match vs,hv with
 |[v],⟨h1,_⟩=>
  obtain rfl:=qI.1 h1
  refine(G6 (h w hs.tab) (fun w' hr=>by cases hr.1)).mono fun e w' ⟨⟨he,hb⟩,hd⟩=>?_
  obtain⟨k1,k2⟩:=Lv hs hb hd
  exact⟨_,S,he,k1,k2,qI.2 rfl⟩

def Uv(xs:List Int):im:=xs.map fun n=>UInt8.ofNat n.toNat
theorem xI{k:IntKind}{S:SH}: ∀{xs:List Int} {cs:List Value},o5 (rI k) S cs xs→cs=xs.map (Value.int k)
 |[],cs,h=>by rw [show cs=[]from h];rfl
 |x::xs,cs,⟨a,b,e,h1,h2⟩=>by
  rw [e,show a=[.int k x]from h1,xI h2]
  rfl
section
variable{ty:TypeId}
theorem KW(ha:E.P.underlying t=some (.array n e))(ti:TI E.P e sz bytes agg z)(hn:Nat.ble n maxLen=true)(hx:aE E.N G x (bq (iS r n) xs)):bS E O G ⟨dst,.slice t x none none none,ty,pos,after,g⟩ (tD (fz r) xs):= .of_pure fun a w S _ _ hf=>by
 obtain⟨b,off,c,T,fr,h1,h2,h3,h4⟩:=hx S a hf
 have hz:(⟨b,off,none⟩:Addr).add 0=⟨b,off,none⟩:=by rw [gA,Nat.add_zero]
 refine⟨.slice (some ⟨b,off,none⟩) n n,?_,lP.2 ⟨_,_,by rw [h3],by omega,oq hn,.inr ⟨b,off,c,T,fr,rfl,h2,by rw [h3];exact h4⟩⟩⟩
 by_cases h0:n=0
 ·subst h0
  simp [execOp,h1,Instr.sliceAt,hU ha,ti.sizeOf,Instr.sliceBounds,Instr.sureAddr]
 ·simp [execOp,h1,Instr.sliceAt,hU ha,ti.sizeOf,Instr.sliceBounds,Instr.sureAddr,h0,hz]
theorem y8{y:α}{ix:Operand}{i:Int}(ht:E.P.underlying t=some (.array n e))(ti:TI E.P e sz bytes agg z)(hsz:r.sz=sz)(hag:r.agg=agg)(hx:aE E.N G x (tD (iS r n) xs))(hi:aE E.N G ix (tD (rI k) i))(hy:dR xs i=some y):bS E O G ⟨dst,.index t x ix,ty,pos,after,g⟩ (tD r y):= .of_pure fun a w S _ _ hf=>by
 obtain⟨cs,h1,h2,h3⟩:=hx S a hf
 have h1' :a.eval x= .agg cs.toArray:=h1
 have h4:a.eval ix= .int k i:=cZ.1 (hi S a hf)
 obtain⟨g1,g2⟩:=iN hy
 have hlt:i.toNat<xs.length:=(ox.1 g2).1
 have hg:=vG h3 g2
 have hin:0≤i∧i<(n:Int):=⟨g1,by omega⟩
 refine⟨r.val ((cs.drop (i.toNat*r.sz)).take r.sz),?_,_,rfl,hg⟩
 have hp:(part e cs.toArray (i.toNat*sz)).run E.P w= .ok (r.val ((cs.drop (i.toNat*r.sz)).take r.sz)) w:=by
  subst hsz
  subst hag
  have hl:=r.len hg
  unfold part
  simp only [pW,ti.isAgg,qz]
  cases hA:r.agg with
  |true=>
   simp [ti.sizeOf,Rp.val,hA]
  |false=>
   have h1:=r.sc hA
   rw [h1,Nat.mul_one]at hl ⊢
   cases hd:cs.drop i.toNat with
   |nil=>rw [hd]at hl;simp at hl
   |cons v l=>
    have hv:cs[i.toNat]? =some v:=by
     have:=ul (xs:=cs) (i:=i.toNat) (j:=0)
     rw [hd]at this
     simpa using this.symm
    simp [Rp.val,hA,hv]
 simp [execOp,h1',h4,Instr.index,asIntOf,hU ht,hin,ti.sizeOf,hp]

def qk(s:im)(i:Nat):Nat×Nat:=Utf8.decode ⟨s.toArray⟩ i
def qP(s:im):Nat→Nat→List (Int×Int)
 |0,_=>[]
 |f+1,i=>if i<s.length then((i:Int),((qk s i).1:Int))::qP s f (i+(qk s i).2)else []
def Gb(s:im):List (Int×Int):=qP s (s.length+1) 0
theorem QL(s:im)(i:Nat):1≤(qk s i).2:=by
 unfold qk Utf8.decode
 simp only []
 repeat' split
 all_goals simp
def CV(r:Nat)(s:im)(left:List (Int×Int)):OE where
 fp:=fun j=>j=r
 p:=fun w S=>S r=none∧ ∃pos f,w.heap[r]? =some (.stringIter ⟨s.toArray⟩ pos)∧left=qP s f pos∧s.length<pos+f
 here:=by
  rintro w S ⟨_,pos,f,h,_⟩ j rfl
  exact(pY.1 h).1
 kept:=by
  rintro C w w' S S' ⟨h0,pos,f,h,h2⟩ k hC
  have hlt:=(pY.1 h).1
  exact⟨by rw [k.old r hlt (hC r rfl)];exact h0,pos,f,by rw [k.heap r hlt (hC r rfl)];exact h,h2⟩
theorem Hg(ht:E.P.underlying t=some .string)(hx:aE E.N G x (tD rS s))(hd:Nat.blt d E.N.n=true)(k: ∀r,RG E ops Q rest (CV r s (Gb s)::O) ((d,tV (aI r 0))::G)):RG E ops Q (⟨some d,.range t x,ty,pos,after,none⟩::rest) O G:= .of rfl fun a w S st=>by
 have hv:a.eval x= .string ⟨s.toArray⟩:=qI.1 (hx S a st.facts)
 have hrun:(execOp a.eval ⟨some d,.range t x,ty,pos,after,none⟩).run E.P w= .ok (.value (aI w.heap.size 0)) (w.alloc (.stringIter ⟨s.toArray⟩ 0)):=by
  simp [execOp,hv,Instr.range,hU ht,aI]
 refine⟨fun c h=>(by cases h),?_⟩
 rw [hrun]
 obtain⟨he,hs',hno⟩:=eh (w:=w) (.stringIter ⟨s.toArray⟩ 0) st.sat
 exact k w.heap.size _ _ S ⟨st.ext.step0 he,hs',nU st.own he ⟨hno,0,s.length+1,Am w _,rfl,by omega⟩ (fun b hb=>by rw [show b=_ from hb];exact gp _) st.base_le,st.facts.put hd rfl⟩
theorem IK{r:Nat}{left:List (Int×Int)}(hx:aE E.N G x (tV (aI r 0)))(hd:Nat.blt d E.N.n=true)(h0:left=[]→RG E ops Q rest (CV r s []::O) ((d,tNx false)::G))(h1: ∀e l,left=e::l→RG E ops Q rest (CV r s l::O) ((d,tT [tD rB true,tD (rI .i64) e.1,tD (rI .i32) e.2])::G)):
  RG E ops Q (⟨some d,.next x true,ty,pos,after,none⟩::rest) (CV r s left::O) G:= .of rfl fun a w S st=>by
 obtain⟨⟨⟨hno,ps,f,hb,hl,hf⟩,hfp⟩,hap,hO⟩:=st.own
 have hv:a.eval x=aI r 0:=hx S a st.facts
 have hsz:(ByteArray.mk s.toArray).size=s.length:=by simp [ByteArray.size]
 have hg:(getObj r).run E.P w= .ok (.stringIter ⟨s.toArray⟩ ps) w:=by
  simp [getObj,Sem.run,hb]
 by_cases hp:ps<s.length
 ·obtain⟨f,rfl⟩: ∃f',f=f' +1:=⟨f-1,by omega⟩
  have hl2:left=((ps:Int),((qk s ps).1:Int))::qP s f (ps+(qk s ps).2):=by rw [hl,qP,dy hp]
  have hset:(setObj r (.stringIter ⟨s.toArray⟩ (ps+(qk s ps).2))).run E.P w= .ok () {w with heap:=w.heap.setIfInBounds r (.stringIter ⟨s.toArray⟩ (ps+(qk s ps).2))}:=by
   simp [setObj,Sem.run,hb]
  have hrun:(execOp a.eval ⟨some d,.next x true,ty,pos,after,none⟩).run E.P w= .ok (.value (.tuple #[.bool true,.int .i64 ps,.int .i32 (qk s ps).1])) {w with heap:=w.heap.setIfInBounds r (.stringIter ⟨s.toArray⟩ (ps+(qk s ps).2))}:=by
   have h3:(Instr.next (aI r 0) true ty).run E.P w= .ok (.tuple #[.bool true,.int .i64 ps,.int .i32 (qk s ps).1]) {w with heap:=w.heap.setIfInBounds r (.stringIter ⟨s.toArray⟩ (ps+(qk s ps).2))}:=by
    unfold Instr.next aI
    simp only [pW,hg,qz,hsz,hp,oo]
    rw [show Utf8.decode ⟨s.toArray⟩ ps=qk s ps from rfl]
    simp only [pW,hset,qz]
    rfl
   simp [execOp,hv,h3]
  refine⟨fun c h=>(by cases h),?_⟩
  rw [hrun]
  have hblt:=(pY.1 hb).1
  have hx' :fM (fun k=> ∃f∈[CV r s left],f.fp k) w S {w with heap:=w.heap.setIfInBounds r (.stringIter ⟨s.toArray⟩ (ps+(qk s ps).2))} S:=
   ⟨rfl,rfl,rfl,gp _,by simp,fun k _ hk=>by
    have:r≠k:=fun e=>hk ⟨_,List.mem_singleton_self _,e.symm⟩
    simp [this],SH.le_refl _,fun _ _ _=>rfl⟩
  have hs' :gR {w with heap:=w.heap.setIfInBounds r (.stringIter ⟨s.toArray⟩ (ps+(qk s ps).2))} S:=st.sat.same fun k o hk=>by
   have:r≠k:=fun e=>by subst e;rw [hno]at hk;cases hk
   simp [this]
  have hnew:(CV r s (qP s f (ps+(qk s ps).2))).p {w with heap:=w.heap.setIfInBounds r (.stringIter ⟨s.toArray⟩ (ps+(qk s ps).2))} S:=
   ⟨hno,_,f,by simp [hblt],rfl,by have:=QL s ps;omega⟩
  refine h1 _ _ hl2 _ _ S ((st.turn (O1:=[CV r s left]) (O2:=[CV r s (qP s f (ps+(qk s ps).2))]) hx' hs' ⟨⟨hnew,fun k hk=> .inl (jJ _)⟩,fun _ h=>(by cases h),trivial⟩ (fun k ⟨g,hg,hk⟩=>?_)).put hd ?_)
  ·have:g=CV r s (qP s f (ps+(qk s ps).2)):=by simpa using hg
   subst this
   exact .inl ⟨_,List.mem_singleton_self _,hk⟩
  ·exact⟨[.bool true,.int .i64 ps,.int .i32 (qk s ps).1],rfl,gi.2 rfl,cZ.2 rfl,cZ.2 rfl,trivial⟩
 ·have hl2:left=[]:=by
   rw [hl]
   cases f with
   |zero=>rfl
   |succ f=>rw [qP,dd hp]
  have hrun:(execOp a.eval ⟨some d,.next x true,ty,pos,after,none⟩).run E.P w= .ok (.value (.tuple #[.bool false])) w:=by
   have h3:(Instr.next (aI r 0) true ty).run E.P w= .ok (.tuple #[.bool false]) w:=by
    unfold Instr.next aI
    simp only [pW,hg,qz,hsz,hp,qw]
    rfl
   simp [execOp,hv,h3]
  refine⟨fun c h=>(by cases h),?_⟩
  rw [hrun]
  subst hl2
  exact h0 rfl _ _ S (st.put hd ⟨[],rfl⟩)
theorem wD{t:Ty}{u:List Ty}{i:Nat}(hu:u[i]? =some t)(hx:aE E.N G x (tT u)):bS E O G ⟨dst,.extract x i,ty,pos,after,g⟩ t:=BJ hu hx
theorem T6{Z:List β→Prop}{Of:List β→List OE}{Gf:kb}(h: ∀l,Z l→(∀l2,l2.length<l.length→Z l2→LG E Q c (Of l2) Gf)→LG E Q c (Of l) Gf)(l:List β)(hz:Z l):LG E Q c (Of l) Gf:=by
 have key: ∀(n:Nat) (l:List β),l.length≤n→Z l→LG E Q c (Of l) Gf:=by
  intro n
  induction n with
  |zero=>intro l hn hz;exact h l hz fun l2 h2 _=>absurd h2 (by omega)
  |succ n ih=>intro l hn hz;exact h l hz fun l2 h2 hz2=>ih l2 (by omega) hz2
 exact key l.length l (gp _) hz
end

abbrev NG:=Nat→(Option Nat×Nat)×(Nat→Option Nat×Nat)
inductive NPl where
 |o
 |i (k:Nat)
 |l (k j:Nat)
section
def Ue(q:Nat→Option Nat×Nat)(zs:List (List α)):List Value:=zs.mapIdx fun j z=>aw (q j).1 (q j).2 z.length
def hd1(prj:β→List (List α))(g:NG)(x:List β):List Value:=x.mapIdx fun k y=>aw (g k).1.1 (g k).1.2 (prj y).length
def nsB(prj:β→List (List α))(l:Option Nat)(g:NG)(x:List β)(h:Option (Nat×Nat)):NPl→Option Nat
 | .o=>l
 | .i k=>(x[k]?).bind fun _=>(g k).1.1
 | .l k j=>if h=some (k,j)then none else((x[k]?).bind fun y=>(prj y)[j]?).bind fun _=>((g k).2 j).1
structure nstP(prj:β→List (List α))(r:Rp α)(T1 T2 T3:TypeId)(l:Option Nat)(cap n:Nat)(g:NG)(x:List β)(h:Option (Nat×Nat))(w:World)(S:SH):Prop where
 len:x.length=n
 out:yq false rV T1 l cap (hd1 prj g x) w S
 inn: ∀k y,x[k]? =some y→yq false rV T2 (g k).1.1 (g k).1.2 (Ue (g k).2 (prj y)) w S
 lvs: ∀k y j z,x[k]? =some y→(prj y)[j]? =some z→h≠some (k,j)→yq true r T3 ((g k).2 j).1 ((g k).2 j).2 z w S
 inj: ∀s t b,nsB prj l g x h s=some b→nsB prj l g x h t=some b→s=t
variable{prj:β→List (List α)}{T1 T2 T3:TypeId}{l:Option Nat}{g:NG}{x:List β}{h:Option (Nat×Nat)}
end
section
variable{prj:β→List (List α)}{T1 T2 T3:TypeId}{l:Option Nat}{g:NG}{x:List β}{h:Option (Nat×Nat)}
variable{ty:TypeId}{gd:Option (Nat×Bool)}
open Classical in
noncomputable def Xe(w:World)(S:SH)(P:Nat→Prop):SH:=fun b=>if P b then w.heap[b]? else S b
def g0(hs:List (Option Nat×Nat)):NG:=fun k=>(hs.getD k (none,0),fun _=>(none,0))
def tsB(l:Option Nat)(q:Nat→Option Nat×Nat)(zs:List (List α))(h:Option Nat):Option Nat→Option Nat
 |none=>l
 |some j=>if h=some j then none else(zs[j]?).bind fun _=>(q j).1
structure rowP(r:Rp α)(T2 T3:TypeId)(l:Option Nat)(cap n:Nat)(q:Nat→Option Nat×Nat)(zs:List (List α))(h:Option Nat)(w:World)(S:SH):Prop where
 len:zs.length=n
 inn:yq false rV T2 l cap (Ue q zs) w S
 lvs: ∀j z,zs[j]? =some z→h≠some j→yq true r T3 (q j).1 (q j).2 z w S
 inj: ∀s t b,tsB l q zs h s=some b→tsB l q zs h t=some b→s=t
variable{q:Nat→Option Nat×Nat}{zs:List (List α)}{k:Option Nat}
end

def C6(es:List Bool)(done:Array Bool):List Nat:=(List.range es.length).filter fun k=>(es[k]?).getD false&&done.getD k false
def OQ(es:List Bool)(i:Nat)(s:List Nat):List Nat:=(List.range es.length).filter fun k=>Nat.beq k i||s.contains k
def TO:List Nat→List Nat→Bool
 |[],[]=>true
 |a::s,b::t=>Nat.beq a b&&TO s t
 |_,_=>false
theorem Iz: ∀{s t:List Nat},TO s t=true→s=t
 |[],[],_=>rfl
 |a::s,b::t,h=>by
  simp only [TO,iP]at h
  rw [m8 h.1,Iz h.2]
 |[],_::_,h=>by cases h
 |_::_,[],h=>by cases h
def LX:List (List Nat×((Nat→OI)→List OE))→List Nat→(Nat→OI)→List OE
 |[],_,_=>[]
 |p::r,s,σ=>bif TO p.1 s then p.2 σ else LX r s σ
theorem xR{k:Nat}:k∈C6 es done↔es[k]? =some true∧done.getD k false=true:=by
 unfold C6
 rw [List.mem_filter,List.mem_range,iP]
 constructor
 ·rintro⟨h1,h2,h3⟩
  refine⟨?_,h3⟩
  rw [pR h1]at h2 ⊢
  simpa using h2
 ·rintro⟨h1,h2⟩
  exact⟨(ox.1 h1).1,by rw [h1];rfl,h2⟩
theorem Ly{i:Nat}(h:es[i]? =some false):C6 es (done.setIfInBounds i true)=C6 es done:=by
 unfold C6
 refine List.filter_congr fun k hk=>?_
 by_cases hik:i=k
 ·subst hik;rw [h];rfl
 ·rw [sw false hik]
theorem QK{i:Nat}(h:es[i]? =some true)(hs:i<done.size):C6 es (done.setIfInBounds i true)=OQ es i (C6 es done):=by
 unfold OQ
 conv=>lhs;unfold C6
 refine List.filter_congr fun k hk=>?_
 by_cases hik:i=k
 ·subst hik;simp [h,hs]
 ·rw [sw false hik]
  have hb:Nat.beq k i=false:=by
   cases hb:Nat.beq k i with
   |false=>rfl
   |true=>exact absurd (m8 hb).symm hik
  rw [hb,wI,yL,FS,xR,iP]
  constructor
  ·rintro⟨h1,h2⟩
   refine⟨?_,h2⟩
   cases he:es[k]? with
   |none=>rw [he]at h1;cases h1
   |some b=>rw [he]at h1;simpa using h1
  ·rintro⟨h1,h2⟩
   exact⟨by rw [h1];rfl,h2⟩
def Dq:List Nat→List (List Nat)
 |[]=>[[]]
 |k::l=>(Dq l).map (k:: ·)++Dq l
def AI(es:List Bool):List Nat:=(List.range es.length).filter fun k=>(es[k]?).getD false
theorem u6(p:Nat→Bool): ∀l:List Nat,l.filter p∈Dq l
 |[]=>uk.2 rfl
 |k::l=>by
  unfold Dq
  rw [wK]
  by_cases h:p k=true
  ·rw [List.filter_cons_of_pos h]
   exact .inl (Bf.2 ⟨_,u6 p l,rfl⟩)
  ·rw [List.filter_cons_of_neg h]
   exact .inr (u6 p l)
theorem Np(es:List Bool)(done:Array Bool):C6 es done∈Dq (AI es):=by
 have:C6 es done=(AI es).filter fun k=>done.getD k false:=by
  unfold C6 AI
  rw [List.filter_filter]
  refine List.filter_congr fun k _=>Bool.and_comm ..
 rw [this]
 exact u6 _ _
def Xw(L:List Oper)(es:List Bool)(i:Nat)(s:List Nat):Bool:=
 s.contains i||(AI es).any fun k=>if s.contains k then lQ L L.length k i||(AI es).any fun j=> !s.contains j&&lQ L L.length k j else lQ L L.length i k
def Kr(L:List Oper)(es:List Bool)(i:Nat)(aas:List (List Nat)):Bool:=(Dq (AI es)).all fun s=>Xw L es i s||aas.any fun a=>TO a s
def Hr{α:Type}(p:α→Prop):List α→Prop
 |[]=>True
 |a::l=>p a∧Hr p l
theorem Hr.mem{p:α→Prop}: ∀{l:List α},Hr p l→ ∀a∈l,p a
 |_::_,⟨h,_⟩,_,.head _=>h
 |_::_,⟨_,h⟩,_,.tail _ hm=>Hr.mem h _ hm
abbrev Ug:=List (List Nat×((Nat→OI)→List OE))
def DT(E:En)(G:kb)(L:List Oper)(ts:List TS)(Ss:Ug)(es0:List Bool):Nat→List Oper→List Bool→Prop
 |_,[],_=>True
 |i,o::rest,false::es=>(∃(needs:List NS) (t:TS) (aas:List (List Nat)),ts[i]? =some t∧ub G ts needs∧(needs.all fun n=>nc L o i (n.at fun _=>wc))=true∧d8 i o=true∧Lz L es0 i t=true∧Kr L es0 i aas=true∧o.dst.isSome=true∧
   Hr (fun s=> ∀σ,cc E (LX Ss s σ) L.toArray (t6 needs σ) o (t.at σ)) aas)∧DT E G L ts Ss es0 (i+1) rest es
 |i,o::rest,true::es=>(∃(needs:List NS) (t:TS) (aas:List (List Nat×List Nat)),ts[i]? =some t∧ub G ts needs∧(needs.all fun n=>nc L o i (n.at fun _=>wc))=true∧d8 i o=true∧Lz L es0 i t=true∧Kr L es0 i (aas.map (·.1))=true∧(aas.all fun p=>TO (OQ es0 i p.1) p.2)=true∧
   Hr (fun p:List Nat×List Nat=> ∀σ,ot E L.toArray (LX Ss p.1 σ) (t6 needs σ) o (fun x=>LX Ss p.2 (Ht σ i x)) (fun x=>t.at (Ht σ i x))) aas)∧DT E G L ts Ss es0 (i+1) rest es
 |_,_::_,[]=>False
theorem DT.get{ts:List TS}{Ss:Ug}{es0:List Bool}: ∀(r:List Oper) (es:List Bool) (k:Nat),DT E G L ts Ss es0 k r es→ ∀(j:Nat) (o:Oper),r[j]? =some o→
    ∃e,es[j]? =some e∧ ∃(needs:List NS) (t:TS),ts[k+j]? =some t∧ub G ts needs∧(needs.all fun n=>nc L o (k+j) (n.at fun _=>wc))=true∧d8 (k+j) o=true∧Lz L es0 (k+j) t=true∧
      (match e with
       |false=>o.dst.isSome=true∧ ∃aas,Kr L es0 (k+j) aas=true∧Hr (fun s=> ∀σ,cc E (LX Ss s σ) L.toArray (t6 needs σ) o (t.at σ)) aas
       |true=> ∃aas:List (List Nat×List Nat),Kr L es0 (k+j) (aas.map (·.1))=true∧(aas.all fun p=>TO (OQ es0 (k+j) p.1) p.2)=true∧Hr (fun p:List Nat×List Nat=> ∀σ,ot E L.toArray (LX Ss p.1 σ) (t6 needs σ) o (fun x=>LX Ss p.2 (Ht σ (k+j) x)) (fun x=>t.at (Ht σ (k+j) x))) aas):=by
  intro r
  induction r with
  |nil=>intro es k _ j o h;simp at h
  |cons p r ih=>
    intro es k h j o ho
    cases es with
    |nil=>exact h.elim
    |cons e es=>
      cases e with
      |false=>
        obtain⟨⟨needs,t,aas,g1,g2,g3,g4,g5,g6,g7,g8⟩,h2⟩:=h
        cases j with
        |zero=>
          simp at ho;subst ho
          exact⟨false,rfl,needs,t,g1,g2,g3,g4,g5,g7,aas,g6,g8⟩
        |succ j=>
          obtain⟨e',g1,g2⟩:=ih es (k+1) h2 j o (by simpa using ho)
          refine⟨e',by simpa using g1,?_⟩
          rw [show k+1+j=k+(j+1)from by omega]at g2
          exact g2
      |true=>
        obtain⟨⟨needs,t,aas,g1,g2,g3,g4,g5,g6,g7,g8⟩,h2⟩:=h
        cases j with
        |zero=>
          simp at ho;subst ho
          exact⟨true,rfl,needs,t,g1,g2,g3,g4,g5,aas,g6,g7,g8⟩
        |succ j=>
          obtain⟨e',g1,g2⟩:=ih es (k+1) h2 j o (by simpa using ho)
          refine⟨e',by simpa using g1,?_⟩
          rw [show k+1+j=k+(j+1)from by omega]at g2
          exact g2
structure R9(E:En)(G:kb)(l:List Oper)(ts:List TS)(Ss:Ug)(es:List Bool)(done:Array Bool)(a:Act)(w:World)(S:SH)(σ:Nat→OI):Prop where
 ext:fM E.B E.w0 E.S0 w S
 sat:gR w S
 own:dp E.base E.B w S (LX Ss (C6 es done) σ)
 size:a.tmps.size=E.N.n
 defers:a.defers=E.N.ds
 dsz:done.size=l.length
 down: ∀j o,l[j]? =some o→done.getD j false=true→ ∀e∈o.after,Region.binds .any e=true→done.getD e.on false=true
 old: ∀k t,look G k=some t→(∀j o,l[j]? =some o→done.getD j false=true→o.dst≠some k)→t.p S (a.tmps.getD k undef)
 new: ∀j o d p,l[j]? =some o→done.getD j false=true→o.dst=some d→ts[j]? =some p→(p.at σ).p S (a.tmps.getD d undef)
 deps: ∀j p,done.getD j false=true→ts[j]? =some p→ ∀k∈p.1,done.getD k false=true
section
variable{ts:List TS}{Ss:Ug}
theorem R9.need(h:R9 E G L ts Ss es done a w S σ){i:Nat}(hi:L[i]? =some o)(hun:done.getD i true=false)(hwait: ∀e∈o.after,Region.binds .any e=true→done.getD e.on false=true){needs:List NS}(h1:ub G ts needs)(h2:(needs.all fun n=>nc L o i (n.at fun _=>wc))=true):co E.N S a (t6 needs σ):=by
 have hlt:i<done.size:=by rw [h.dsz];exact(ox.1 hi).1
 have hun' :done.getD i false=false:=by
  simp [hlt]at hun ⊢;exact hun
 refine⟨h.size,h.defers,?_⟩
 have key: ∀n∈needs,(n.ty σ).p S (a.tmps.getD n.slot undef):=by
  intro n hn
  have hs:=kZ.1 h2 n hn
  have ho:=h1.mem n hn
  unfold nc NS.at at hs
  unfold Ra at ho
  cases hsrc:n.src with
  |some j=>
   rw [hsrc]at hs ho
   simp only [iP]at hs
   obtain⟨hs1,hs2⟩:=hs
   cases hj:L[j]? with
   |none=>rw [hj]at hs1;cases hs1
   |some p=>
    rw [hj]at hs1
    cases hd:p.dst with
    |none=>simp only [hd]at hs1;cases hs1
    |some d=>
     simp only [hd]at hs1
     have hd' :=m8 hs1
     subst hd'
     have hdone:done.getD j false=true:=by
      unfold zN at hs2
      obtain⟨e,he0,hb⟩:=An.1 hs2
      have he:e∈o.after:=by simpa using he0
      simp only [iP]at hb
      have:=hwait e he hb.2
      rwa [m8 hb.1]at this
     have hm:=ho σ
     cases hf:ts[j]? with
     |none=>rw [hf]at hm;simp at hm
     |some f=>
      rw [hf]at hm
      have e:f.at σ=n.ty σ:=by simpa using hm
      rw [←e]
      exact h.new j p n.slot f hj hdone hd hf
  |none=>
   rw [hsrc]at hs ho
   refine h.old _ _ (ho σ) fun j p hj hdone hd=>?_
   have:=kZ.1 hs p (sv hj)
   simp only [hd,Nat.beq_refl,wa,wI]at this
   unfold zN at this
   obtain⟨e,he0,hb⟩:=An.1 this
   have he:e∈p.after:=by simpa using he0
   simp only [iP]at hb
   have h3:=h.down j p hj hdone e he hb.2
   rw [m8 hb.1]at h3
   rw [h3]at hun'
   cases hun'
 clear h1 h2
 intro k t hk
 unfold t6 at hk
 induction needs with
 |nil=>simp [iz,look]at hk
 |cons n needs ih=>
  simp only [List.map_cons]at hk
  unfold iz look at hk
  by_cases hb:Nat.beq n.slot k=true
  ·have hb' :Nat.beq (n.at σ).slot k=true:=hb
   rw [hb']at hk
   have:=m8 hb
   subst this
   have h9:some (n.at σ).ty=some t:=by simpa using hk
   have e:n.ty σ=t:=mO h9
   rw [←e]
   exact key n (lV ..)
  ·rw [yM]at hb
   have hb' :Nat.beq (n.at σ).slot k=false:=hb
   rw [hb']at hk
   exact ih (fun m hm=>key m (kG _ hm)) hk
theorem R9.step{σ' :Nat→OI}(h:R9 E G L ts Ss es done a w S σ){i:Nat}{p0:TS}{C:Nat→Prop}(hi:L[i]? =some o)(hdN: ∀d,o.dst=some d→d<E.N.n)(hs2: ∀d,o.dst=some d→ ∀j p,L[j]? =some p→done.getD j false=true→p.dst=some d→i=j)(hwait: ∀e∈o.after,Region.binds .any e=true→done.getD e.on false=true)(ht:ts[i]? =some p0)(hun:done.getD i true=false)(hdep: ∀k∈p0.1,k=i∨done.getD k false=true)(hext:fM C w S w' S')(hC: ∀b,C b→E.base≤b∨E.B b)(hsat:gR w' S')(hown:dp E.base E.B w' S' (LX Ss (C6 es (done.setIfInBounds i true)) σ'))(hσ: ∀k,k≠i→σ' k=σ k)(hv:(p0.at σ').p S' v):
  R9 E G L ts Ss es (done.setIfInBounds i true) (a.put o.dst v) w' S' σ' :=by
 have hlt:i<done.size:=by rw [h.dsz];exact(ox.1 hi).1
 have hset: ∀j,(done.setIfInBounds i true).getD j false=true→j=i∨done.getD j false=true:=fun j hj=>by
  by_cases hij:i=j
  ·exact .inl hij.symm
  ·rw [sw false hij]at hj;exact .inr hj
 have hseti:(done.setIfInBounds i true).getD i false=true:=by simp [hlt]
 have hun' :done.getD i false=false:=by simp [hlt]at hun ⊢;exact hun
 have hput: ∀k,(∀d,o.dst=some d→d≠k)→(a.put o.dst v).tmps.getD k undef=a.tmps.getD k undef:=fun k hk=>by
  cases hd:o.dst with
  |none=>rfl
  |some d=>
   have hda:d<a.tmps.size:=by rw [h.size];exact hdN d hd
   rw [o6 hda,dd (hk d hd)]
 refine⟨h.ext.step hext hC,hsat,hown,?_,?_,by simp [h.dsz],fun j p hj hdone e he hb=>?_,fun k u hk hno=>?_,fun j p d' u hj hdone hd' hu=>?_,fun j u hj hu k hk=>?_⟩
 ·cases o.dst with
  |none=>exact h.size
  |some d=>simp [Act.put,h.size]
 ·cases o.dst with
  |none=>exact h.defers
  |some d=>exact h.defers
 ·rcases hset j hdone with rfl|hj'
  ·rw [hi]at hj
   have:o=p:=by simpa using hj
   subst this
   exact sU (hwait e he hb)
  ·exact sU (h.down j p hj hj' e he hb)
 ·rw [hput k fun d hd e=>hno i o hi hseti (by rw [hd,e])]
  exact u.mono hext.keep (h.old k u hk fun j p hj hdone=>hno j p hj (sU hdone))
 ·by_cases hij:j=i
  ·subst hij
   rw [hi]at hj
   have:o=p:=by simpa using hj
   subst this
   have hda:d' <a.tmps.size:=by rw [h.size];exact hdN d' hd'
   rw [hd',o6 hda,dy rfl]
   rw [ht]at hu
   have:p0=u:=by simpa using hu
   subst this
   exact hv
  ·have hj' :=(hset j hdone).resolve_left hij
   rw [hput d' fun d hd e=>by subst e;exact hij (hs2 d hd j p hj hj' hd').symm]
   have e1:u.at σ' =u.at σ:=congrArg u.2 (List.map_congr_left fun k hk=>hσ k fun e=>by
     subst e
     rw [h.deps j u hj' hu k hk]at hun';cases hun')
   rw [e1]
   exact Ty.mono _ hext.keep (h.new j p d' u hj hj' hd' hu)
 ·rcases hset j hj with rfl|hj'
  ·rw [ht]at hu
   have:p0=u:=by simpa using hu
   subst this
   rcases hdep k hk with rfl|h'
   ·exact hseti
   ·exact sU h'
  ·exact sU (h.deps j u hj' hu k hk)
end
theorem FV{l t:List Oper}{ts:List TS}{Ss:Ug}(hsl:uz E.N.n [] l=true)(hlen:ts.length=l.length)(hesl:es.length=l.length)(hd:DT E G (l++t) ts Ss es 0 l es)(ht:wp (l++t) l.length t.length=true)(hQ: ∀a w S σ,St E (LX Ss (AI es) σ) (Gv l (NW ts σ) G) a w S→wpListIn (fw E.r) 0 E.P (l++t).toArray Q t a w):
  ∀(fuel:Nat) (done:Array Bool) (a:Act) (w:World) (S:SH) (σ:Nat→OI),jV done=fuel→(∀j,l.length≤j→done.getD j false=false)→R9 E G (l++t) ts Ss es done a w S σ→wpAnyIn (fw E.r) 0 E.P .any (l++t).toArray Q fuel done a w:=by
 have hL1: ∀i o,i<l.length→(l++t)[i]? =some o→l[i]? =some o:=fun i o hi h=>by rwa [yO hi]at h
 have hL2: ∀i o,l[i]? =some o→(l++t)[i]? =some o:=fun i o h=>by rw [yO (ox.1 h).1];exact h
 have htail: ∀m o,l.length≤m→(l++t)[m]? =some o→tL (l++t) m=true∧d8 m o=true:=fun m o hm ho=>by
  have hml:m<(l++t).length:=(ox.1 ho).1
  rw [mq]at hml
  unfold wp at ht
  have:=kZ.1 ht (m-l.length) (by simp;omega)
  rw [show l.length+(m-l.length)=m from by omega,ho]at this
  simp only [iP]at this
  exact⟨this.1,this.2.1⟩
 have hget:=fun i o (hi:l[i]? =some o)=>DT.get l es 0 hd i o hi
 have hedge: ∀i o,(l++t)[i]? =some o→d8 i o=true:=fun i o hi=>by
  rcases mT i l.length with h|h
  ·obtain⟨_,_,_,_,_,_,_,h,_⟩:=hget i o (hL1 i o h hi)
   simpa using h
  ·exact(htail i o h hi).2
 obtain⟨hs1,hs2⟩:=zS l [] hsl
 have fin: ∀fuel done a w S σ,jV done=fuel→(∀j,l.length≤j→done.getD j false=false)→R9 E G (l++t) ts Ss es done a w S σ→(∀i,i<l.length→done.getD i false=true)→wpAnyIn (fw E.r) 0 E.P .any (l++t).toArray Q fuel done a w:=by
  intro fuel done a w S σ hu hfree h hall
  have hdn:C6 es done=AI es:=by
   unfold C6 AI
   refine List.filter_congr fun k hk=>?_
   rw [hall k (by rw [←hesl];exact List.mem_range.1 hk),Bool.and_true]
  have hown:=h.own
  rw [hdn]at hown
  refine wN (n:=l.length) (fun m o hm ho=>(htail m o hm ho).1) hedge t l.length done fuel a w (gp _) (by simp) h.dsz (fun j hj=>⟨fun hjd=>?_,fun hlt=>hall j hlt⟩) hu
   (hQ a w S σ ⟨h.ext,h.sat,hown,h.size,h.defers,fun j u hj=>?_⟩)
  ·rcases mT j l.length with h' |h'
   ·exact h'
   ·rw [hfree j h']at hjd;cases hjd
  ·rcases DM l (NW ts σ) j u (by unfold NW;rw [List.length_map];exact hlen) hj with⟨i,o,h1,h2,h3⟩|⟨h1,h2⟩
   ·unfold NW at h3
    rw [CI]at h3
    cases hf:ts[i]? with
    |none=>rw [hf]at h3;simp at h3
    |some f=>
     rw [hf]at h3
     have e:f.at σ=u:=by simpa using h3
     rw [←e]
     exact h.new i o j f (hL2 i o h1) (hall i (ox.1 h1).1) h2 hf
   ·refine h.old j u h1 fun i o ho hdn=>?_
    rcases mT i l.length with h' |h'
    ·exact h2 o (sv (hL1 i o h' ho))
    ·rw [hfree i h']at hdn;cases hdn
 have lower: ∀done a w S σ i,(∀j,l.length≤j→done.getD j false=false)→R9 E G (l++t) ts Ss es done a w S σ→i∈Region.ready .any (l++t).toArray done→l.length≤i→ ∀j,j<l.length→done.getD j false=true:=by
  intro done a w S σ i hfree h hi hge j hj
  obtain⟨hun,p,hp,hwait⟩:=qA.1 hi
  have hp' :(l++t)[i]? =some p:=by simpa using hp
  have hcov:=(htail i p hge hp').1
  unfold tL at hcov
  have hre:=kZ.1 hcov j (by simp;omega)
  exact fy h.down _ i j (fun q hq e he hb=>by
   have:q=p:=by rw [hp']at hq;simpa using hq.symm
   subst this
   exact hwait e he hb) hre
 intro fuel
 induction fuel with
 |zero=>
  intro done a w S σ hu hfree h
  exact fin 0 done a w S σ hu hfree h fun i hi=>rs hu (by rw [h.dsz,mq];omega)
 |succ fuel ih=>
  intro done a w S σ hu hfree h
  by_cases hall: ∀i,i<l.length→done.getD i false=true
  ·exact fin _ done a w S σ hu hfree h hall
  have hready0: ∀m i,i<m→i<l.length→Region.ready .any (l++t).toArray done=[]→done.getD i false=true:=by
   intro m
   induction m with
   |zero=>intro i h;omega
   |succ m ihm=>
    intro i him hil hr
    have his:i<done.size:=by rw [h.dsz,mq];omega
    by_cases hdn:done.getD i true=true
    ·rw [←mA his];exact hdn
    ·exfalso
     obtain⟨o,ho⟩: ∃o,(l++t)[i]? =some o:=⟨l[i],hL2 i _ (pR hil)⟩
     have hmem:i∈Region.ready .any (l++t).toArray done:=by
      rw [qA]
      refine⟨by simpa using hdn,o,by simpa using ho,fun e he hb=>?_⟩
      have:=hedge i o ho
      unfold d8 at this
      have:=kZ.1 this e (by simpa using he)
      simp only [hb,wa,wI,sr]at this
      exact ihm e.on (by omega) (by omega) hr
     rw [hr]at hmem;cases hmem
  refine⟨fun hr=>absurd (fun i hi=>hready0 (i+1) i (by omega) hi hr) hall,fun i hi=>?_⟩
  have hil:i<l.length:=by
   rcases mT i l.length with h' |h'
   ·exact h'
   ·exact absurd (lower done a w S σ i hfree h hi h') hall
  obtain⟨hun,o,ho,hwait⟩:=qA.1 hi
  have ho' :(l++t)[i]? =some o:=by simpa using ho
  have hol:=hL1 i o hil ho'
  obtain⟨e,he,needs,u,h1,h2,h3,_,h4,h5⟩:=hget i o hol
  rw [qx]at h1 h3 h4
  have hF:=h.need ho' hun hwait h2 h3
  have his:i<done.size:=by rw [h.dsz,mq];omega
  have hun' :done.getD i false=false:=by rw [←mA his];exact hun
  have hu' :jV (done.setIfInBounds i true)=fuel:=by have:=oB hun;omega
  have huq: ∀d,o.dst=some d→ ∀j p,(l++t)[j]? =some p→done.getD j false=true→p.dst=some d→i=j:=fun d hdd j p hj hjd hpd=>by
   rcases mT j l.length with h' |h'
   ·exact hs2 i j o p d hol (hL1 j p h' hj) hdd hpd
   ·rw [hfree j h']at hjd;cases hjd
  have hfree' : ∀j,l.length≤j→(done.setIfInBounds i true).getD j false=false:=fun j hj=>by
   rw [sw false (by omega)];exact hfree j hj
  have hbl:E.base≤w.heap.size:=h.ext.size
  have hwaits: ∀q,(l++t)[i]? =some q→ ∀e∈q.after,Region.binds .any e=true→done.getD e.on false=true:=fun q hq e he hb=>by
   have:q=o:=by rw [ho']at hq;simpa using hq.symm
   subst this
   exact hwait e he hb
  have hdpp: ∀k∈u.1,k=i∨done.getD k false=true:=fun k hk=>by
   have:=kZ.1 h4 k hk
   simp only [iP,zJ]at this
   rcases this.2 with hb|hb
   ·exact .inl (m8 hb)
   ·exact .inr (fy h.down _ i k hwaits hb)
  have hdNN: ∀d,o.dst=some d→d<E.N.n:=fun d hd=>(hs1 o (sv hol) d hd).1
  unfold wpOpIn
  rw [ho]
  show if _ then _ else _
  -- just these effects stand
  have hpos:Xw (l++t) es i (C6 es done)=false:=by
   rw [Bool.eq_false_iff]
   intro hno
   unfold Xw at hno
   rw [zJ]at hno
   rcases hno with hc|hc
   ·have:=(xR.1 (FS.1 hc)).2
    rw [this]at hun';cases hun'
   ·obtain⟨k,hk1,hk2⟩:=An.1 hc
    have hke:es[k]? =some true:=by
     unfold AI at hk1
     rw [List.mem_filter,List.mem_range]at hk1
     have h7:=hk1.2
     rw [pR hk1.1]at h7 ⊢
     simpa using h7
    by_cases hin:(C6 es done).contains k=true
    ·rw [dy hin,zJ]at hk2
     have hkd:=(xR.1 (FS.1 hin)).2
     rcases hk2 with hb|hb
     ·have:=fy h.down _ k i (fun q hq e he hb=>h.down k q hq hkd e he hb) hb
      rw [this]at hun';cases hun'
     ·obtain⟨j,hj1,hj2⟩:=An.1 hb
      rw [iP,Ao]at hj2
      have hje:es[j]? =some true:=by
       unfold AI at hj1
       rw [List.mem_filter,List.mem_range]at hj1
       have h7:=hj1.2
       rw [pR hj1.1]at h7 ⊢
       simpa using h7
      have hjd:=fy h.down _ k j (fun q hq e he hb=>h.down k q hq hkd e he hb) hj2.2
      have:=FS.2 (xR.2 ⟨hje,hjd⟩)
      rw [hj2.1]at this;cases this
    ·rw [dd hin]at hk2
     have hkd:=fy h.down _ i k hwaits hk2
     exact hin (FS.2 (xR.2 ⟨hke,hkd⟩))
  have hwin: ∀aas:List (List Nat),Kr (l++t) es i aas=true→C6 es done∈aas:=by
   intro aas hw
   unfold Kr at hw
   have:=kZ.1 hw _ (Np es done)
   rw [hpos,wI]at this
   obtain⟨b,hb1,hb2⟩:=An.1 this
   rw [←Iz hb2];exact hb1
  cases e with
  |false=>
   simp only at h5
   obtain⟨hdS,aas,hw,h5⟩:=h5
   rw [qx]at hw
   obtain⟨d,hdd⟩:=Option.isSome_iff_exists.1 hdS
   have h6:=h5.mem _ (hwin aas hw) σ a w S h.sat h.own hF
   have hdq:=Ly (done:=done) he
   by_cases hw:Region.wanted o (yielded (l++t).toArray a.tmps)=true
   ·rw [dy hw]at h6 ⊢
    refine jK (fun a' w' ⟨v,S',ha,hx,hs,hv⟩=>?_) h6
    subst ha
    exact ih _ _ _ S' _ hu' hfree' (h.step ho' hdNN huq hwait h1 hun hdpp hx (fun _ hb=>hb.elim) hs (by rw [hdq];exact h.own.ext0 hx) (fun _ _=>rfl) hv)
   ·rw [dd hw]at h6 ⊢
    exact⟨fun _ _=>trivial,ih _ _ _ S _ hu' hfree' (h.step ho' hdNN huq hwait h1 hun hdpp (fR om _ _) (fun _ hb=>hb.elim) h.sat (by rw [hdq];exact h.own) (fun _ _=>rfl) h6)⟩
  |true=>
   simp only [qx]at h5
   obtain⟨aas,hw,hins,h5⟩:=h5
   obtain⟨p,hp1,hp2⟩:=Bf.1 (hwin _ hw)
   have hp3:=Iz (kZ.1 hins p hp1)
   have h6:=h5.mem p hp1 σ a w S h.sat (by rw [hp2];exact h.own) hF hbl
   have hdq:C6 es (done.setIfInBounds i true)=p.2:=by rw [QK he his,←hp2,hp3]
   by_cases hw:Region.wanted o (yielded (l++t).toArray a.tmps)=true
   ·rw [dy hw]at h6 ⊢
    refine jK (fun a' w' ⟨v,S',x,ha,hx,hs,hown,hv⟩=>?_) h6
    subst ha
    exact ih _ _ _ S' _ hu' hfree' (h.step ho' hdNN huq hwait h1 hun hdpp hx (fun b ⟨f,hf,hb⟩=>(dp.mem h.own f (by rw [←hp2];exact hf)).2 b hb) hs (by rw [hdq];exact hown) (fun k hk=>Bn σ x hk) hv)
   ·rw [dd hw]at h6 ⊢
    obtain⟨x,hown,hv⟩:=h6
    exact⟨fun _ _=>trivial,ih _ _ _ S _ hu' hfree' (h.step ho' hdNN huq hwait h1 hun hdpp (fR om _ _) (fun _ hb=>hb.elim) h.sat (by rw [hdq];exact hown) (fun k hk=>Bn σ x hk) hv)⟩
theorem Hq{id:Nat}(m:Nat)(ts:List TS)(es:List Bool)(Ss:Ug)(hO: ∀σ,LX Ss [] σ=O)(hm:E.P.follows .mixedOrders=true)(hsl:uz E.N.n [] (L.take m)=true)(hlen:ts.length=(L.take m).length)(hesl:es.length=(L.take m).length)(ht:wp L (L.take m).length (L.drop m).length=true)(hd:DT E G L ts Ss es 0 (L.take m) es)(k: ∀σ:Nat→OI,RG E L.toArray Q (L.drop m) (LX Ss (AI es) σ) (Gv (L.take m) (NW ts σ) G)):CG E Q (.region id L.toArray true) O G:=fun a w S st=>by
 have hL:L=L.take m++L.drop m:=(sY m L).symm
 generalize L.take m=l at hL hsl hlen hesl ht hd k
 generalize L.drop m=t at hL ht k
 subst hL
 refine wpIn_region_any hm ?_
 obtain⟨he,hs⟩:=vq (w:=w) st.sat
 have hdn0:C6 es (Array.replicate (l++t).toArray.size false)=[]:=by
  unfold C6
  refine List.filter_eq_nil_iff.2 fun k hk=>?_
  simp [wM]
  intro _
  split<;>simp
 refine FV hsl hlen hesl hd ht (fun a w S σ st=>k σ a w S st) _ _ _ _ S (fun _=>wc) ?_ (fun j _=>?_)
  ⟨st.ext.step0 he,hs,by rw [hdn0,hO];exact st.own.ext0 he,st.facts.size,st.facts.defers,by simp,fun j o hj hdone=>?_,fun k t hk _=>st.facts.at_ k t hk,fun j o d t hj hdone=>?_,fun j p hdone=>?_⟩
 ·unfold jV;rw [IW,IT];simp
 ·simp [wM];split<;>rfl
 ·simp [wM]at hdone
  split at hdone<;>simp at hdone
 ·simp [wM]at hdone
  split at hdone<;>simp at hdone
 ·simp [wM]at hdone
  split at hdone<;>simp at hdone

theorem dp.perm(h:O.Perm O'):dp base B w S O→dp base B w S O' :=by
 induction h with
 |nil=>exact id
 |cons x p ih=>
  rintro⟨h1,h2,h3⟩
  exact⟨h1,fun f hf=>h2 f (p.mem_iff.2 hf),ih h3⟩
 |swap x y l=>
  rintro⟨h1,h2,h3,h4,h5⟩
  refine⟨h3,fun f hf k hk hfk=>?_,h1,fun f hf=>h2 f (kG _ hf),h5⟩
  rcases iC.1 hf with rfl|hf
  ·exact h2 x (lV ..) k hfk hk
  ·exact h4 f hf k hk hfk
 |trans _ _ ih1 ih2=>exact fun k=>ih2 (ih1 k)
def rz(O:List OE):List Nat→List OE
 |[]=>[]
 |i::l=>match O[i]? with
  |some e=>e::rz O l
  |none=>rz O l
theorem xN(O:List OE): ∀a b:List Nat,rz O (a++b)=rz O a++rz O b
 |[],_=>rfl
 |i::a,b=>by
  simp only [CF,rz]
  split<;>simp [xN O a b]
theorem H4{a b:List Nat}(h:a.Perm b):(rz O a).Perm (rz O b):=by
 induction h with
 |nil=>exact .nil
 |cons x p ih=>
  simp only [rz]
  split
  ·exact .cons _ ih
  ·exact ih
 |swap x y l=>
  simp only [rz]
  cases hx:O[x]? <;>cases hy:O[y]? <;>simp<;>exact .swap ..
 |trans _ _ ih1 ih2=>exact ih1.trans ih2
theorem Gq(O:List OE):rz O (List.range O.length)=O:=by
 have key: ∀n,n≤O.length→rz O (List.range n)=O.take n:=by
  intro n
  induction n with
  |zero=>intro _;rfl
  |succ n ih=>
   intro h
   rw [List.range_succ,xN,ih (by omega)]
   simp only [rz]
   rw [pR (by omega),LZ (by omega)]
 rw [key _ (gp _),Bc]
theorem dp.pick(l:List Nat)(hl:l.isPerm (List.range O.length)=true)(h:dp base B w S O):dp base B w S (rz O l):=
 h.perm (by
  have:=H4 (O:=O) (List.isPerm_iff.1 hl)
  rw [Gq]at this
  exact this.symm)

section
section
variable{ty:TypeId}
end
theorem vK{ty:TypeId}{l:Option Nat}{o:Nat}{y:α}{j:Int}{p:Operand}(hm:ky mm r U l cap xs∈O)(hy:dR xs j=some y)(hp:aE E.N G p (tV (oX l o))):
  bS E O G ⟨dst,.nilCheck p,ty,pos,after,g⟩ (tV (oX l o)):=
 .of_pure fun a w S _ ho hF=>by
  have h1:a.eval p=oX l o:=hp S a hF
  obtain⟨_,hy'⟩:=iN hy
  obtain⟨b,cur,rfl,_⟩:=qU (ho.mem _ hm).1 hy'
  exact⟨oX (some b) o,by simp [execOp,h1,oX,aI],rfl⟩
end
end Go.Proofs.YtmogpgcfognefaaGreatDoor

